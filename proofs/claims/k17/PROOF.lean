import PyProof.Rows.All
import Wide.All
import OpenK.AllK
import Wide.FinOn
import HandS.ForMost
import HandS.Exc
import HandS.Wide
import HandS.CallSlots
import HandS.ExcOwn
import HandS.TryMany
import HandS.Defaults
import HandS.Words
import HandS.WordsExc
import HandS.ExcInit
import HandS.IsInst
import HandS.Text
import HandS.ExcField
import HandS.ExcIs
import HandS.TryOnly
import HandS.ClsMeth
import KE.KIsAll
import KE.KTryMore
import HandS.Head0
import HandS.Head1
import HandS.Head2
import HandS.Head3
import HandS.Head4
import HandS.HeadEnd
import HandS.HeadHook1
import HandS.HeadHook2
import HandS.HeadHook3
import HandS.HeadHook4
import HandS.Style
import PySem.Challenge.RW_helmsum_k17_refusals_apart
set_option Elab.async false
set_option linter.all false
set_option maxRecDepth 100000
namespace Mi
open PySem L2

/-- a value without addresses: trees; a mutable cell by its number -/
inductive PV where
  | non | bl (b : Bool) | int (i : Int) | str (s : Str)
  | tup (l : List PV) | lst (l : List PV) | rd (l : List PV)
  | obj (c : Nat) (l : List PV) | dct (ks : List Key) (l : List PV) | exv (c : Nat) (l : List PV) | ref (n : Nat)
  deriving Inhabited

inductive Cell where
  | dead | lst (l : List PV) | ins (c : Nat) (l : List PV) | dct (ks : List Key) (l : List PV)
def Cell.live : Cell → Bool
  | .dead => false
  | _ => true
abbrev Store := List Cell

inductive SV where
  | un | t (p : PV) | own (c : Cell)
abbrev Ev := List SV

inductive Res (α : Type) where
  | ok (a : α) (st : Store) | ex (c : Nat) (l : List PV) (st : Store) | no
abbrev M (α : Type) := Store → Res α
def ret (a : α) : M α := fun st => .ok a st
def fail : M α := fun _ => .no
def bnd (m : M α) (f : α → M β) : M β := fun st => match m st with
  | .ok a st' => f a st'
  | .ex c l st' => .ex c l st'
  | .no => .no
def lift (o : Option α) : M α := fun st => match o with
  | some a => .ok a st
  | none => .no
theorem bnd_ok {m : M α} {f : α → M β} {st st' : Store} {a : α} (h : m st = .ok a st') : bnd m f st = f a st' := by unfold bnd; rw [h]
theorem ret_st {a : α} {st : Store} : ret a st = .ok a st := rfl
theorem lift_some {a : α} {st : Store} : lift (some a) st = .ok a st := rfl

/-- what the classes are: their addresses, their fields in order -/
structure Glo where
  K : PySem.W.Frag
  ca : Nat → Addr
  cf : Nat → List Str
  /-- the exception that a suite holds: where, its class, its dict -/
  hand : Option (Addr × Value × Option Addr)

/-- an exception object of the class cls, its dict at d -/
def exvO (a : Addr) (cls : Value) (d : Option Addr) : HO := .ext fun h => ∃ (oe : Obj) (vs : Array Value), h.get? a = some oe ∧ Zc cls d oe ∧ oe.data = .fields vs
theorem exvO_ok {P : Program} {w : World} {H : Hp} {h : Heap} {a : Addr} {cls : Value} {d : Option Addr} {oe : Obj} {vs : Array Value} (e : h.get? a = some oe) (z : Zc cls d oe) (hd : oe.data = .fields vs) : ObjOk P w H h a (exvO a cls d) :=
  ⟨⟨oe, vs, e, z, hd⟩, ⟨oe, e⟩, fun _ _ ⟨o, v, q, r⟩ k => ⟨o, v, k o q, r⟩⟩
def EAt (hand : Option (Addr × Value × Option Addr)) (F : Hp) (a : Addr) (cls : Value) (d : Option Addr) : Prop := F a = some (exvO a cls d) ∨ hand = some (a, cls, d)

/-- a world: the cells' addresses, the frozen heap -/
structure Wd where
  ρ : List Addr
  F : Hp

mutual
inductive Rep (G : Glo) (W : Wd) : V → PV → Prop
  | non : Rep G W .non .non
  | bl (b : Bool) : Rep G W (.bl b) (.bl b)
  | int (i : Int) : Rep G W (.int i) (.int i)
  | str (s : Str) : Rep G W (.str s) (.str s)
  | tup {a : Addr} {vs : List V} {l : List PV} : SqT G.K W.F a vs → RepL G W vs l → Rep G W (.ref a) (.tup l)
  | lst {a : Addr} {vs : List V} {l : List PV} : W.F a = some (.lst vs) → RepL G W vs l → Rep G W (.ref a) (.lst l)
  | rd {a : Addr} {vs : List V} {l : List PV} : SqL G.K W.F a vs → RepL G W vs l → Rep G W (.ref a) (.rd l)
  | obj {a dx : Addr} {c : Nat} {fs : List (Str × V)} {l : List PV} : W.F a = some (.ins (G.ca c) dx fs) → fs.map (·.1) = (G.cf c).take l.length → RepL G W (fs.map (·.2)) l → Rep G W (.ref a) (.obj c l)
  | dct {a : Addr} {kvs : List (Key × V)} {ks : List Key} {l : List PV} : W.F a = some (.dK kvs) → kvs.map (·.1) = ks → RepL G W (kvs.map (·.2)) l → Rep G W (.ref a) (.dct ks l)
  | exv0 {a : Addr} {c : Nat} : EAt G.hand W.F a (.ref (G.ca c)) none → Rep G W (.ref a) (.exv c [])
  | exv1 {a dx : Addr} {c : Nat} {fs : List (Str × V)} {l : List PV} : EAt G.hand W.F a (.ref (G.ca c)) (some dx) → W.F dx = some (.xd fs) → fs.map (·.1) = (G.cf c).take l.length → RepL G W (fs.map (·.2)) l → Rep G W (.ref a) (.exv c l)
  | ref {n : Nat} {a : Addr} : W.ρ[n]? = some a → Rep G W (.ref a) (.ref n)
inductive RepL (G : Glo) (W : Wd) : List V → List PV → Prop
  | nil : RepL G W [] []
  | cons {v : V} {vs : List V} {p : PV} {l : List PV} : Rep G W v p → RepL G W vs l → RepL G W (v :: vs) (p :: l)
end

section
variable {G : Glo} {W W' : Wd}
theorem SqT.same {K : PySem.W.Frag} {H H' : Hp} {a : Addr} {xs : List V} (e : Same H H') (h : SqT K H a xs) : SqT K H' a xs := by
  rcases h with (h | ⟨o, h⟩) | h
  · exact .inl (.inl (e _ _ h))
  · exact .inl (.inr ⟨o, e _ _ h⟩)
  · exact .inr h
/-- a world that has grown -/
structure Wle (W W' : Wd) : Prop where
  pre : ∃ more, W'.ρ = W.ρ ++ more
  F : Same W.F W'.F
theorem Wle.refl (W : Wd) : Wle W W := ⟨⟨[], by simp⟩, fun _ _ h => h⟩
theorem Wle.trans {A B C : Wd} (x : Wle A B) (y : Wle B C) : Wle A C := by
  obtain ⟨m, e⟩ := x.pre
  obtain ⟨n, f⟩ := y.pre
  exact ⟨⟨m ++ n, by rw [f, e, List.append_assoc]⟩, x.F.trans y.F⟩
theorem Wle.at (x : Wle W W') {n : Nat} {a : Addr} (h : W.ρ[n]? = some a) : W'.ρ[n]? = some a := by
  obtain ⟨m, e⟩ := x.pre
  rw [e, List.getElem?_append_left (List.getElem?_eq_some_iff.mp h).1, h]
mutual
theorem Rep.mono (x : Wle W W') : ∀ {v : V} {p : PV}, Rep G W v p → Rep G W' v p
  | _, _, .non => .non
  | _, _, .bl b => .bl b
  | _, _, .int i => .int i
  | _, _, .str s => .str s
  | _, _, .tup h r => .tup (SqT.same x.F h) (RepL.mono x r)
  | _, _, .lst h r => .lst (x.F _ _ h) (RepL.mono x r)
  | _, _, .rd h r => .rd (x.F.seq h) (RepL.mono x r)
  | _, _, .obj h e r => .obj (x.F _ _ h) e (RepL.mono x r)
  | _, _, .dct h e r => .dct (x.F _ _ h) e (RepL.mono x r)
  | _, _, .exv0 h => .exv0 (h.imp (x.F _ _) id)
  | _, _, .exv1 h k e r => .exv1 (h.imp (x.F _ _) id) (x.F _ _ k) e (RepL.mono x r)
  | _, _, .ref h => .ref (x.at h)
theorem RepL.mono (x : Wle W W') : ∀ {vs : List V} {l : List PV}, RepL G W vs l → RepL G W' vs l
  | _, _, .nil => .nil
  | _, _, .cons h r => .cons (Rep.mono x h) (RepL.mono x r)
end
theorem RepL.len : ∀ {vs : List V} {l : List PV}, RepL G W vs l → vs.length = l.length
  | _, _, .nil => rfl
  | _, _, .cons _ r => by simp [RepL.len r]
theorem RepL.get : ∀ {vs : List V} {l : List PV} {i : Nat} {v : V}, RepL G W vs l → vs[i]? = some v → ∃ p, l[i]? = some p ∧ Rep G W v p
  | _, _, _, _, .nil, h => by simp at h
  | _, _, 0, _, .cons h r, e => by simp at e; subst e; exact ⟨_, rfl, h⟩
  | _, _, i + 1, _, .cons h r, e => by
    obtain ⟨p, e2, q⟩ := RepL.get (i := i) r (by simpa using e)
    exact ⟨p, by simpa using e2, q⟩
theorem RepL.get' : ∀ {vs : List V} {l : List PV} {i : Nat} {p : PV}, RepL G W vs l → l[i]? = some p → ∃ v, vs[i]? = some v ∧ Rep G W v p
  | _, _, _, _, .nil, h => by simp at h
  | _, _, 0, _, .cons h r, e => by simp at e; subst e; exact ⟨_, rfl, h⟩
  | _, _, i + 1, _, .cons h r, e => by
    obtain ⟨p, e2, q⟩ := RepL.get' (i := i) r (by simpa using e)
    exact ⟨p, by simpa using e2, q⟩
theorem RepL.append : ∀ {vs ws : List V} {l m : List PV}, RepL G W vs l → RepL G W ws m → RepL G W (vs ++ ws) (l ++ m)
  | _, _, _, _, .nil, h => h
  | _, _, _, _, .cons h r, q => .cons h (RepL.append r q)
theorem RepL.one {v : V} {p : PV} (h : Rep G W v p) : RepL G W [v] [p] := .cons h .nil
theorem RepL.take : ∀ {vs : List V} {l : List PV} (n : Nat), RepL G W vs l → RepL G W (vs.take n) (l.take n)
  | _, _, 0, _ => by simp; exact .nil
  | _, _, n + 1, .nil => by simp; exact .nil
  | _, _, n + 1, .cons h r => by simp; exact .cons h (RepL.take n r)
theorem RepL.drop : ∀ {vs : List V} {l : List PV} (n : Nat), RepL G W vs l → RepL G W (vs.drop n) (l.drop n)
  | _, _, 0, h => by simpa using h
  | _, _, n + 1, .nil => by simp; exact .nil
  | _, _, n + 1, .cons h r => by simpa using RepL.drop n r
theorem RepL.set : ∀ {vs : List V} {l : List PV} (n : Nat) {v : V} {p : PV}, RepL G W vs l → Rep G W v p → RepL G W (vs.set n v) (l.set n p)
  | _, _, _, _, _, .nil, _ => by simp; exact .nil
  | _, _, 0, _, _, .cons h r, q => by simp; exact .cons q r
  | _, _, n + 1, _, _, .cons h r, q => by simp; exact .cons h (RepL.set n r q)
theorem RepL.eraseIdx : ∀ {vs : List V} {l : List PV} (n : Nat), RepL G W vs l → RepL G W (vs.eraseIdx n) (l.eraseIdx n)
  | _, _, _, .nil => by simp; exact .nil
  | _, _, 0, .cons h r => by simpa using r
  | _, _, n + 1, .cons h r => by simp; exact .cons h (RepL.eraseIdx n r)
end

/-! ### the store and the heap -/
def CellHp (G : Glo) (W : Wd) (H : Hp) (a : Addr) : Cell → Prop
  | .dead => False
  | .lst l => ∃ vs, H a = some (.lst vs) ∧ RepL G W vs l
  | .ins c l => ∃ dx fs, H a = some (.ins (G.ca c) dx fs) ∧ fs.map (·.1) = (G.cf c).take l.length ∧ RepL G W (fs.map (·.2)) l
  | .dct ks l => ∃ kvs, H a = some (.dK kvs) ∧ kvs.map (·.1) = ks ∧ RepL G W (kvs.map (·.2)) l
def CellAt (G : Glo) (W : Wd) (H : Hp) (a : Addr) (c : Cell) : Prop := c.live = true → W.F a = none ∧ CellHp G W H a c
def LiveAt (W : Wd) (st : Store) (b : Addr) : Prop := ∃ (n : Nat) (c : Cell), W.ρ[n]? = some b ∧ st[n]? = some c ∧ c.live = true
structure Good (G : Glo) (W : Wd) (st : Store) (H : Hp) : Prop where
  sub : Same W.F H
  len : W.ρ.length = st.length
  cell : ∀ (n : Nat) (a : Addr) (c : Cell), W.ρ[n]? = some a → st[n]? = some c → CellAt G W H a c
  inj : ∀ (n m : Nat) (a : Addr) (c d : Cell), W.ρ[n]? = some a → W.ρ[m]? = some a → st[n]? = some c → st[m]? = some d → c.live = true → d.live = true → n = m
/-- from one state to a later one -/
structure Step (W : Wd) (st : Store) (H : Hp) (W' : Wd) (st' : Store) (H' : Hp) : Prop where
  le : Wle W W'
  fr : ∀ b o, H b = some o → ¬ LiveAt W st b → H' b = some o
  there : ∀ b, H' b = none → H b = none
  newF : ∀ b, W.F b = none → H b ≠ none → ¬ LiveAt W st b → W'.F b = none
  newL : ∀ b, LiveAt W' st' b → LiveAt W st b ∨ H b = none
section
variable {G : Glo} {W W' W1 W2 : Wd} {st st' st1 st2 : Store} {H H' H0 H1 H2 : Hp}
theorem Step.refl : Step W st H W st H := ⟨Wle.refl W, fun _ _ h _ => h, fun _ h => h, fun _ h _ _ => h, fun _ h => .inl h⟩
theorem Step.trans (x : Step W st H W1 st1 H1) (y : Step W1 st1 H1 W2 st2 H2) : Step W st H W2 st2 H2 where
  le := x.le.trans y.le
  fr := fun b o h n => y.fr b o (x.fr b o h n) fun q => (x.newL b q).elim n fun z => by rw [h] at z; cases z
  there := fun b h => x.there b (y.there b h)
  newF := fun b h n q => y.newF b (x.newF b h n q) (fun z => n (x.there b z)) fun z => (x.newL b z).elim q n
  newL := fun b h => (y.newL b h).elim (x.newL b) fun z => .inr (x.there b z)
theorem CellHp.isSome {a : Addr} {c : Cell} (h : CellHp G W H a c) : H a ≠ none := by
  cases c with
  | dead => exact h.elim
  | lst l => obtain ⟨vs, e, _⟩ := h; rw [e]; simp
  | ins c l => obtain ⟨dx, fs, e, _⟩ := h; rw [e]; simp
  | dct ks l => obtain ⟨kvs, e, _⟩ := h; rw [e]; simp
theorem CellHp.mono {a : Addr} {c : Cell} (x : Wle W W') (hh : H' a = H a) (h : CellHp G W H a c) : CellHp G W' H' a c := by
  cases c with
  | dead => exact h
  | lst l => obtain ⟨vs, e, r⟩ := h; exact ⟨vs, by rw [hh]; exact e, r.mono x⟩
  | ins c l => obtain ⟨dx, fs, e, n, r⟩ := h; exact ⟨dx, fs, by rw [hh]; exact e, n, r.mono x⟩
  | dct ks l => obtain ⟨kvs, e, n, r⟩ := h; exact ⟨kvs, by rw [hh]; exact e, n, r.mono x⟩
theorem live_some {b : Addr} (g : Good G W st H) (h : LiveAt W st b) : H b ≠ none ∧ W.F b = none := by
  obtain ⟨n, c, h1, h2, h3⟩ := h
  obtain ⟨f, q⟩ := g.cell n b c h1 h2 h3
  exact ⟨CellHp.isSome q, f⟩
/-- a cell's heap part stays where its object stays and the world grows -/
theorem CellAt.mono {a : Addr} {c : Cell} (x : Wle W W') (hf : c.live = true → W'.F a = none) (hh : c.live = true → H' a = H a) (h : CellAt G W H a c) : CellAt G W' H' a c :=
  fun l => ⟨hf l, CellHp.mono x (hh l) (h l).2⟩
/-- a new object, known to nobody yet -/
theorem Good.junk (g : Good G W st H) {p : Addr} {o : HO} (hp : H p = none) : Good G W st (upd H p o) ∧ Step W st H W st (upd H p o) := by
  have ne : ∀ b u, H b = some u → b ≠ p := fun b u h z => by subst z; rw [hp] at h; cases h
  refine ⟨⟨fun b u h => by rw [upd_ne (ne b u (g.sub b u h))]; exact g.sub b u h, g.len, fun n a c h1 h2 => ?_, g.inj⟩, ⟨Wle.refl W, fun b u h _ => by rw [upd_ne (ne b u h)]; exact h, fun b h => ?_, fun _ h _ _ => h, fun _ h => .inl h⟩⟩
  · refine (g.cell n a c h1 h2).mono (Wle.refl W) (fun l => (live_some g ⟨n, c, h1, h2, l⟩).2) fun l => ?_
    have z := (live_some g ⟨n, c, h1, h2, l⟩).1
    rw [upd_ne]
    rintro rfl
    exact z hp
  · by_cases e : b = p
    · subst e; rw [upd_same] at h; cases h
    · rw [upd_ne e] at h; exact h
/-- what is nobody's is frozen -/
theorem Good.freeze (g : Good G W st H) {p : Addr} {o : HO} (hp : H p = some o) (hf : W.F p = none) (hl : ¬ LiveAt W st p) :
    Good G ⟨W.ρ, upd W.F p o⟩ st H ∧ Wle W ⟨W.ρ, upd W.F p o⟩ ∧ ∀ b, b ≠ p → (upd W.F p o) b = W.F b := by
  have le : Wle W ⟨W.ρ, upd W.F p o⟩ := ⟨⟨[], by simp⟩, fun b u h => by
    have : b ≠ p := fun z => by subst z; rw [hf] at h; cases h
    show upd W.F p o b = some u
    rw [upd_ne this]; exact h⟩
  refine ⟨⟨fun b u h => ?_, g.len, fun n a c h1 h2 => ?_, g.inj⟩, le, fun b h => upd_ne h⟩
  · by_cases e : b = p
    · subst e
      have h' : upd W.F b o b = some u := h
      rw [upd_same] at h'; cases h'; exact hp
    · have h' : upd W.F p o b = some u := h
      rw [upd_ne e] at h'; exact g.sub b u h'
  · refine (g.cell n a c h1 h2).mono le (fun l => ?_) fun _ => rfl
    have z := (live_some g ⟨n, c, h1, h2, l⟩).2
    show upd W.F p o a = none
    rw [upd_ne]
    · exact z
    · rintro rfl
      exact hl ⟨n, c, h1, h2, l⟩
end

/-! ### slots -/
/-- a thing that nobody else knows; H0: the heap at the entry -/
structure OwnAt (G : Glo) (W : Wd) (st : Store) (H H0 : Hp) (a : Addr) (c : Cell) : Prop where
  ob : CellHp G W H a c
  fr : W.F a = none
  lv : ¬ LiveAt W st a
  nw : H0 a = none
def SlotOk (G : Glo) (W : Wd) (st : Store) (H H0 : Hp) (v : Option V) : SV → Prop
  | .un => True
  | .t p => ∃ x, v = some x ∧ Rep G W x p
  | .own c => ∃ a, v = some (.ref a) ∧ OwnAt G W st H H0 a c
structure EnvOk (G : Glo) (W : Wd) (st : Store) (H H0 : Hp) (σ : St) (env : Ev) : Prop where
  len : σ.length = env.length
  at_ : ∀ (i : Nat) (sv : SV), env[i]? = some sv → ∃ v, σ[i]? = some v ∧ SlotOk G W st H H0 v sv
  dis : ∀ (i j : Nat) (l m : Cell) (a : Addr), env[i]? = some (.own l) → env[j]? = some (.own m) → σ[i]? = some (some (.ref a)) → σ[j]? = some (some (.ref a)) → i = j
section
variable {G : Glo} {W W' W1 W2 : Wd} {st st' st1 st2 : Store} {H H' H0 H1 H2 : Hp} {σ : St} {env : Ev}
theorem Step.same {a : Addr} (s : Step W st H W' st' H') (hn : H a ≠ none) (hl : ¬ LiveAt W st a) : H' a = H a := by
  cases e : H a with
  | none => exact absurd e hn
  | some o => exact s.fr a o e hl
theorem OwnAt.step {a : Addr} {l : Cell} (o : OwnAt G W st H H0 a l) (s : Step W st H W' st' H') : OwnAt G W' st' H' H0 a l := by
  have hn : H a ≠ none := CellHp.isSome o.ob
  exact ⟨CellHp.mono s.le (s.same hn o.lv) o.ob, s.newF a o.fr hn o.lv, fun z => (s.newL a z).elim o.lv hn, o.nw⟩
theorem SlotOk.step {v : Option V} {sv : SV} (o : SlotOk G W st H H0 v sv) (s : Step W st H W' st' H') : SlotOk G W' st' H' H0 v sv := by
  cases sv with
  | un => trivial
  | t p => obtain ⟨x, e, r⟩ := o; exact ⟨x, e, r.mono s.le⟩
  | own l => obtain ⟨a, e, r⟩ := o; exact ⟨a, e, r.step s⟩
theorem EnvOk.step (o : EnvOk G W st H H0 σ env) (s : Step W st H W' st' H') : EnvOk G W' st' H' H0 σ env :=
  ⟨o.len, fun i sv h => let ⟨v, e, q⟩ := o.at_ i sv h; ⟨v, e, q.step s⟩, o.dis⟩
end

/-! ### outcomes -/
/-- an exception of a class of one's own: its class, its own dict -/
def ExcAt (G : Glo) (W : Wd) (c : Nat) (l : List PV) (cls : Value) (d : Option Addr) : Prop :=
  cls = .ref (G.ca c) ∧ ((l = [] ∧ d = none) ∨ ∃ dx fs, d = some dx ∧ W.F dx = some (.xd fs) ∧ fs.map (·.1) = (G.cf c).take l.length ∧ RepL G W (fs.map (·.2)) l)
/-- what is wanted of a result -/
def Post {α : Type} (G : Glo) (wx : WX) (σ : St) (W : Wd) (st : Store) (H : Hp) (R : α → Wd → Store → Hp → Prop) : Res α → Prop
  | .ok a st' => ∀ W' H', Step W st H W' st' H' → Good G W' st' H' → R a W' st' H'
  | .ex c l st' => ∀ W' H' cls d, Step W st H W' st' H' → Good G W' st' H' → ExcAt G W' c l cls d → wx cls d σ H'
  | .no => False
def ResOk (G : Glo) (W : Wd) (st : Store) (H Hs : Hp) (v : V) : SV → Prop
  | .un => False
  | .t p => Rep G W v p
  | .own c => ∃ a, v = .ref a ∧ OwnAt G W st H Hs a c
/-- the state at hand -/
structure SOk (G : Glo) (H0 : Hp) (W : Wd) (st : Store) (H : Hp) (σ : St) (env : Ev) : Prop where
  g : Good G W st H
  e : EnvOk G W st H H0 σ env
/-- readings: a tree; a tree or an owned list; a sequence to be read; a test; arguments -/
def tP (G : Glo) (wx : WX) (m : Ev → M PV) : TE := fun σ H Q => ∃ H0 W st env, SOk G H0 W st H σ env ∧
  Post G wx σ W st H (fun p W' st' H' => ∀ v, Rep G W' v p → Q v H') (m env st)
def tV (G : Glo) (wx : WX) (m : Ev → M SV) : TE := fun σ H Q => ∃ H0 W st env, SOk G H0 W st H σ env ∧
  Post G wx σ W st H (fun sv W' st' H' => ∀ v, ResOk G W' st' H' H v sv → Q v H') (m env st)
def tQ (G : Glo) (wx : WX) (m : Ev → M (List PV)) : TE := fun σ H Q => ∃ H0 W st env, SOk G H0 W st H σ env ∧
  Post G wx σ W st H (fun l W' st' H' => ∀ a vs, (SqL G.K H' a vs ∨ SqT G.K H' a vs) → RepL G W' vs l → Q (.ref a) H') (m env st)
def tT (G : Glo) (wx : WX) (m : Ev → M Bool) : TT := fun σ H Q => ∃ H0 W st env, SOk G H0 W st H σ env ∧
  Post G wx σ W st H (fun b W' st' H' => Q b H') (m env st)
def tA (G : Glo) (wx : WX) (m : Ev → M (List PV)) : TA := fun σ H Q => ∃ H0 W st env, SOk G H0 W st H σ env ∧
  Post G wx σ W st H (fun l W' st' H' => ∀ vs, RepL G W' vs l → Q vs H') (m env st)
section
variable {α β : Type} {G : Glo} {wx : WX} {W W' W1 W2 : Wd} {st st' st1 st2 : Store} {H H' H0 H1 H2 Hs : Hp} {σ : St} {env : Ev} {R R' : α → Wd → Store → Hp → Prop}
theorem SOk.step (o : SOk G H0 W st H σ env) (s : Step W st H W' st' H') (g : Good G W' st' H') : SOk G H0 W' st' H' σ env := ⟨g, o.e.step s⟩
theorem Post.mono {x : Res α} (h : Post G wx σ W st H R x) (f : ∀ a W' st' H', Step W st H W' st' H' → Good G W' st' H' → R a W' st' H' → R' a W' st' H') : Post G wx σ W st H R' x := by
  cases x with
  | ok a st' => exact fun W' H' s g => f a W' st' H' s g (h W' H' s g)
  | ex c l st' => exact h
  | no => exact h
theorem Post.step {x : Res α} (h : Post G wx σ W st H R x) (s : Step W st H W1 st1 H1) : Post G wx σ W1 st1 H1 R x := by
  cases x with
  | ok a st' => exact fun W' H' s' g => h W' H' (s.trans s') g
  | ex c l st' => exact fun W' H' cls d s' g e => h W' H' cls d (s.trans s') g e
  | no => exact h
theorem Post.split {m : M β} {f : β → M α} (h : Post G wx σ W st H R (bnd m f st)) : Post G wx σ W st H (fun b W1 st1 H1 => Post G wx σ W1 st1 H1 R (f b st1)) (m st) := by
  unfold bnd at h
  cases e : m st with
  | ok b st1 => rw [e] at h; exact fun W1 H1 s g => Post.step h s
  | ex c l st1 => rw [e] at h; exact h
  | no => rw [e] at h; exact h
/-- the same over a fixed earlier state -/
theorem Post.splitB {m : M β} {f : β → M α} (s : Step W1 st1 H1 W st H) (h : Post G wx σ W1 st1 H1 R (bnd m f st)) : Post G wx σ W st H (fun b _ st2 _ => Post G wx σ W1 st1 H1 R (f b st2)) (m st) := by
  unfold bnd at h
  cases e : m st with
  | ok b st2 => rw [e] at h; exact fun W2 H2 s2 g => h
  | ex c l st2 => rw [e] at h; exact fun W' H' cls d s' g x => h W' H' cls d (s.trans s') g x
  | no => rw [e] at h; exact h
theorem Post.liftB {o : Option α} (h : Post G wx σ W st H R (Mi.lift o st1)) : ∃ a, o = some a ∧ Post G wx σ W st H R (.ok a st1) := by
  cases o with
  | none => exact h.elim
  | some a => exact ⟨a, rfl, h⟩
theorem bnd_assoc {γ : Type} (m : M α) (f : α → M β) (g : β → M γ) : bnd (bnd m f) g = bnd m fun a => bnd (f a) g := by
  funext st
  unfold bnd
  cases m st <;> rfl
theorem Post.lift {o : Option α} (h : Post G wx σ W st H R (lift o st)) (g : Good G W st H) : ∃ a, o = some a ∧ R a W st H := by
  cases o with
  | none => exact h.elim
  | some a => exact ⟨a, rfl, h W H .refl g⟩
theorem Post.here {a : α} (h : Post G wx σ W st H R (.ok a st)) (g : Good G W st H) : R a W st H := h W H .refl g
/-- an owned thing is frozen where it is wanted as a tree -/
def Cell.tree : Cell → PV
  | .dead => .non
  | .lst l => .lst l
  | .ins c l => .obj c l
  | .dct ks l => .dct ks l
def frz : SV → M PV
  | .un => fail
  | .t p => ret p
  | .own c => ret c.tree
theorem CellHp.rep {a : Addr} {c : Cell} (h : CellHp G W H a c) : ∃ o, H a = some o ∧ ∀ W1, Wle W W1 → W1.F a = some o → Rep G W1 (.ref a) c.tree := by
  cases c with
  | dead => exact h.elim
  | lst l => obtain ⟨vs, e, r⟩ := h; exact ⟨_, e, fun W1 le f => .lst f (r.mono le)⟩
  | ins c l => obtain ⟨dx, fs, e, n, r⟩ := h; exact ⟨_, e, fun W1 le f => .obj f n (r.mono le)⟩
  | dct ks l => obtain ⟨kvs, e, n, r⟩ := h; exact ⟨_, e, fun W1 le f => .dct f n (r.mono le)⟩
theorem OwnAt.frz {a : Addr} {l : Cell} (o : OwnAt G W st H Hs a l) (g : Good G W st H) : ∃ W1, Good G W1 st H ∧ Wle W W1 ∧ Rep G W1 (.ref a) l.tree ∧ ∀ b, b ≠ a → W1.F b = W.F b ∧ (LiveAt W1 st b ↔ LiveAt W st b) := by
  obtain ⟨ob, e, r⟩ := CellHp.rep o.ob
  obtain ⟨g1, le, ne⟩ := g.freeze e o.fr o.lv
  exact ⟨_, g1, le, r _ le upd_same, fun b h => ⟨ne b h, Iff.rfl⟩⟩
theorem ResOk.frz {v : V} {sv : SV} (h : ResOk G W1 st1 H1 H v sv) (g : Good G W1 st1 H1) (s : Step W st H W1 st1 H1) {p : PV} (e : frz sv st1 = .ok p st1) :
    ∃ W2, Step W st H W2 st1 H1 ∧ Good G W2 st1 H1 ∧ Rep G W2 v p := by
  cases sv with
  | un => cases e
  | t q => cases e; exact ⟨W1, s, g, h⟩
  | own l =>
    cases e
    obtain ⟨a, rfl, o⟩ := h
    obtain ⟨W2, g2, le, r, ne⟩ := o.frz g
    refine ⟨W2, ⟨s.le.trans le, s.fr, s.there, fun b h1 h2 h3 => ?_, fun b h1 => ?_⟩, g2, r⟩
    · have : b ≠ a := fun z => h2 (by rw [z]; exact o.nw)
      rw [(ne b this).1]
      exact s.newF b h1 h2 h3
    · by_cases z : b = a
      · subst z; exact .inr o.nw
      · exact s.newL b ((ne b z).2.mp h1)
end
theorem _root_.L2.PE.weak {X : Cx} {e : Expr} {t t' : TE} (h : PE X e t) (w : ∀ σ H Q, t' σ H Q → t σ H Q) : PE X e t' := ⟨fun pins s σ H Q I q => h.run pins s σ H Q I (w σ H Q q)⟩
theorem _root_.L2.PT.weak {X : Cx} {e : Expr} {t t' : TT} (h : PT X e t) (w : ∀ σ H Q, t' σ H Q → t σ H Q) : PT X e t' := ⟨fun pins s σ H Q I q => h.run pins s σ H Q I (w σ H Q q)⟩
theorem _root_.L2.PA.weak {X : Cx} {e : List Expr} {t t' : TA} (h : PA X e t) (w : ∀ σ H Q, t' σ H Q → t σ H Q) : PA X e t' := ⟨fun pos pins s σ H Q I q => h.run pos pins s σ H Q I (w σ H Q q)⟩
theorem _root_.L2.PS.weak {X : Cx} {e : Stmt} {t t' : TS} (h : PS X e t) (w : ∀ D σ H, t' D σ H → t D σ H) : PS X e t' := ⟨fun pins s σ H D I q => h.run pins s σ H D I (w D σ H q)⟩
theorem _root_.L2.PSs.weak {X : Cx} {e : List Stmt} {t t' : TS} (h : PSs X e t) (w : ∀ D σ H, t' D σ H → t D σ H) : PSs X e t' := ⟨fun pins s σ H D I q => h.run pins s σ H D I (w D σ H q)⟩
end Mi

namespace Mi
open PySem L2

section
variable {G : Glo} {wx : WX} {W W' W1 W2 : Wd} {st st' st1 st2 : Store} {H H' H0 H1 H2 Hs : Hp} {σ : L2.St} {env : Ev}
/-! ### new objects -/
theorem Good.newL (g : Good G W st H) {p : Addr} (hp : H p = none) {vs : List V} {l : List PV} (r : RepL G W vs l) :
    Good G W st (upd H p (.lst vs)) ∧ Step W st H W st (upd H p (.lst vs)) ∧ ∀ Hs, (∀ b, H b = none → Hs b = none) → OwnAt G W st (upd H p (.lst vs)) Hs p (.lst l) := by
  obtain ⟨g1, s1⟩ := g.junk (o := .lst vs) hp
  refine ⟨g1, s1, fun Hs hs => ⟨⟨vs, upd_same, r⟩, g.sub.free hp, fun z => (live_some g z).1 hp, hs p hp⟩⟩
theorem Good.newT (g : Good G W st H) {p : Addr} (hp : H p = none) {vs : List V} {l : List PV} (r : RepL G W vs l) :
    ∃ W1, Good G W1 st (upd H p (.tup vs)) ∧ Step W st H W1 st (upd H p (.tup vs)) ∧ Rep G W1 (.ref p) (.tup l) := by
  obtain ⟨g1, s1⟩ := g.junk (o := .tup vs) hp
  have fp : W.F p = none := g.sub.free hp
  have lp : ¬ LiveAt W st p := fun z => (live_some g z).1 hp
  obtain ⟨g2, le, ne⟩ := g1.freeze (p := p) (o := .tup vs) upd_same fp lp
  refine ⟨_, g2, ⟨le, s1.fr, s1.there, fun b h1 h2 h3 => ?_, s1.newL⟩, .tup (.of upd_same) (r.mono le)⟩
  have : b ≠ p := fun z => h2 (by rw [z]; exact hp)
  exact (ne b this).trans h1
theorem Good.at (g : Good G W st H) {a : Addr} {o : HO} (h : W.F a = some o) : H a = some o := g.sub a o h

/-! ### coercions -/
def pV (m : Ev → M SV) : Ev → M PV := fun env => bnd (m env) frz
def vP (m : Ev → M PV) : Ev → M SV := fun env => bnd (m env) fun p => ret (.t p)
def qP (m : Ev → M PV) : Ev → M (List PV) := fun env => bnd (m env) fun p st => match p with
  | .lst l => .ok l st
  | .tup l => .ok l st
  | .rd l => .ok l st
  | .ref n => match st[n]? with
    | some (.lst l) => .ok l st
    | _ => .no
  | _ => .no
def bP (m : Ev → M PV) : Ev → M Bool := fun env => bnd (m env) fun p => match p with
  | .bl b => ret b
  | _ => fail
variable {X : Cx} {a b e : Expr} {ma mb : Ev → M PV} {m : Ev → M SV} {pos : Pos}
theorem r_vP (h : PE X e (tP G wx ma)) : PE X e (tV G wx (vP ma)) := h.weak fun σ H Q ⟨H0, W, st, env, o, q⟩ =>
  ⟨H0, W, st, env, o, (Post.split q).mono fun p W1 st1 H1 s g q v r => q.here g v r⟩
theorem r_pV (h : PE X e (tV G wx m)) : PE X e (tP G wx (pV m)) := h.weak fun σ H Q ⟨H0, W, st, env, o, q⟩ => by
  refine ⟨H0, W, st, env, o, ?_⟩
  unfold pV bnd at q
  cases e : m env st with
  | ok sv st1 =>
    rw [e] at q
    refine fun W1 H1 s g v hv => ?_
    have q' : Post G wx σ W st H (fun p W' st' H' => ∀ v, Rep G W' v p → Q v H') (frz sv st1) := q
    cases sv with
    | un => exact hv.elim
    | t p => exact q' W1 H1 s g v hv
    | own l =>
      obtain ⟨W2, s2, g2, r2⟩ := ResOk.frz hv g s (p := l.tree) rfl
      exact q' W2 H1 s2 g2 v r2
  | ex c l st1 => rw [e] at q; exact q
  | no => rw [e] at q; exact q
theorem r_qP (h : PE X e (tP G wx ma)) : PE X e (tQ G wx (qP ma)) := h.weak fun σ H Q ⟨H0, W, st, env, o, q⟩ => by
  refine ⟨H0, W, st, env, o, (Post.split q).mono fun p W1 st1 H1 s g q v r => ?_⟩
  cases r with
  | lst h r => exact q.here g _ _ (.inl (.of (g.at h))) r
  | tup h r => exact q.here g _ _ (.inr (SqT.same g.sub h)) r
  | rd h r => exact q.here g _ _ (.inl (g.sub.seq h)) r
  | @ref n a h =>
    have q' : Post G wx σ W1 st1 H1 _ (match st1[n]? with | some (.lst l) => Res.ok l st1 | _ => .no) := q
    cases e2 : st1[n]? with
    | none => rw [e2] at q'; exact q'.elim
    | some c =>
      rw [e2] at q'
      have z := g.cell n a c h e2
      cases c with
      | dead => exact q'.elim
      | ins c l => exact q'.elim
      | dct c l => exact q'.elim
      | lst l => obtain ⟨_, vs, ev, r⟩ := z rfl; exact Post.here (a := l) q' g _ _ (.inl (.of ev)) r
  | exv0 h => exact q.elim
  | exv1 h k e r => exact q.elim
  | non => exact q.elim
  | bl b => exact q.elim
  | int i => exact q.elim
  | str s => exact q.elim
  | obj h n r => exact q.elim
  | dct h n r => exact q.elim
theorem r_bP (h : PE X e (tP G wx ma)) (he : ∀ whole, isTrue e X.env whole = (do let v ← whole; standAt e.pos; holding [v] (truthy v)) := by intro _; rfl) : PT X e (tT G wx (bP ma)) :=
  (pt_val h he).weak fun σ H Q ⟨H0, W, st, env, o, q⟩ => by
    refine ⟨H0, W, st, env, o, (Post.split q).mono fun p W1 st1 H1 s g q v r => ?_⟩
    cases r with
    | bl b => exact ⟨b, rfl, q.here g⟩
    | _ => exact q.elim

/-! ### names, constants -/
def vr (i : Nat) : Ev → M PV := fun env => match env[i]? with
  | some (.t p) => ret p
  | _ => fail
/-- an owned list's name, to be read on the spot -/
def qv (i : Nat) : Ev → M (List PV) := fun env => match env[i]? with
  | some (.own (.lst l)) => ret l
  | _ => fail
def kp (p : PV) : Ev → M PV := fun _ => ret p
theorem r_vr {i : Nat} {x : Str} (hN : X.N[i]? = some x) (hv : Vis X.env.scope x := by first | exact .inl rfl | exact .inr (.inl rfl) | exact .inr (.inr rfl)) (hd : (x == ("__debug__" : Str)) = false := by decide) (hcd : (x == ("__classdict__" : Str)) = false := by decide) : PE X (.Name x pos) (tP G wx (vr i)) :=
  (pe_var hN hv hd hcd).weak fun σ H Q ⟨H0, W, st, env, o, q⟩ => by
    unfold vr at q
    cases e : env[i]? with
    | none => rw [e] at q; exact q.elim
    | some sv =>
      rw [e] at q
      cases sv with
      | t p =>
        obtain ⟨v, e1, x, e2, r⟩ := o.e.at_ i _ e
        exact ⟨x, by rw [e1, e2], Post.here (a := p) q o.g x r⟩
      | un => exact q.elim
      | own l => exact q.elim
theorem r_qv {i : Nat} {x : Str} (hN : X.N[i]? = some x) (hv : Vis X.env.scope x := by first | exact .inl rfl | exact .inr (.inl rfl) | exact .inr (.inr rfl)) (hd : (x == ("__debug__" : Str)) = false := by decide) (hcd : (x == ("__classdict__" : Str)) = false := by decide) : PE X (.Name x pos) (tQ G wx (qv i)) :=
  (pe_var hN hv hd hcd).weak fun σ H Q ⟨H0, W, st, env, o, q⟩ => by
    unfold qv at q
    cases e : env[i]? with
    | none => rw [e] at q; exact q.elim
    | some sv =>
      rw [e] at q
      cases sv with
      | own c =>
        cases c with
        | lst l =>
          obtain ⟨v, e1, a, e2, r⟩ := o.e.at_ i _ e
          obtain ⟨vs, e3, r3⟩ := r.ob
          exact ⟨.ref a, by rw [e1, e2], Post.here (a := l) q o.g a vs (.inl (.of e3)) r3⟩
        | _ => exact q.elim
      | un => exact q.elim
      | t l => exact q.elim
theorem rd_kp {v : V} {p : PV} (h : ∀ W, Rep G W v p) : ∀ σ H Q, tP G wx (kp p) σ H Q → tC v σ H Q := fun σ H Q ⟨H0, W, st, env, o, q⟩ => q.here o.g v (h W)
theorem r_int {i j pos} : PE X (.Constant (.int i) j pos) (tP G wx (kp (.int i))) := pe_int.weak (rd_kp fun _ => .int i)
theorem r_bl {b j pos} : PE X (.Constant (.bool b) j pos) (tP G wx (kp (.bl b))) := pe_bl.weak (rd_kp fun _ => .bl b)
theorem r_non {j pos} : PE X (.Constant .none j pos) (tP G wx (kp .non)) := pe_non.weak (rd_kp fun _ => .non)
theorem r_str {x j pos} : PE X (.Constant (.str x) j pos) (tP G wx (kp (.str x))) := pe_str.weak (rd_kp fun _ => .str x)
/-- a module's constant -/
theorem r_glob {x : Str} {v : V} {u : Value} {p : PV} (hg : Gl X x) (hm : X.mg x = some u) (r : RelV v u) (h : ∀ W, Rep G W v p) (hd : (x == ("__debug__" : Str)) = false := by decide) : PE X (.Name x pos) (tP G wx (kp p)) :=
  (pe_glob hg hm r hd).weak (rd_kp h)

/-! ### two values, one out -/
def op2 (f : PV → PV → Option PV) (ma mb : Ev → M PV) : Ev → M PV := fun env => bnd (ma env) fun p => bnd (mb env) fun q => lift (f p q)
def op1 (f : PV → Option PV) (ma : Ev → M PV) : Ev → M PV := fun env => bnd (ma env) fun p => lift (f p)
theorem rd_op2 {r : R2} {f : PV → PV → Option PV} (hf : ∀ W H x y p q z (Q : VK), Same W.F H → Rep G W x p → Rep G W y q → f p q = some z → (∀ v, Rep G W v z → Q v H) → r x y H Q) :
    ∀ σ H Q, tP G wx (op2 f ma mb) σ H Q → tOp r (tP G wx ma) (tP G wx mb) σ H Q := fun σ H Q ⟨H0, W, st, env, o, q⟩ => by
  refine ⟨H0, W, st, env, o, (Post.split q).mono fun p W1 st1 H1 s g q v r => ?_⟩
  refine ⟨H0, W1, st1, env, o.step s g, (Post.split q).mono fun p2 W2 st2 H2 s2 g2 q2 v2 r2 => ?_⟩
  obtain ⟨z, e, k⟩ := Post.lift q2 g2
  exact hf W2 H2 v v2 p p2 z Q g2.sub (r.mono s2.le) r2 e k
theorem rd_op1 {r : V → Hp → VK → Prop} {f : PV → Option PV} (hf : ∀ W H x p z (Q : VK), Same W.F H → Rep G W x p → f p = some z → (∀ v, Rep G W v z → Q v H) → r x H Q) :
    ∀ σ H Q, tP G wx (op1 f ma) σ H Q → tUn r (tP G wx ma) σ H Q := fun σ H Q ⟨H0, W, st, env, o, q⟩ => by
  refine ⟨H0, W, st, env, o, (Post.split q).mono fun p W1 st1 H1 s g q v r => ?_⟩
  obtain ⟨z, e, k⟩ := Post.lift q g
  exact hf W1 H1 v p z Q g.sub r e k
/-- ints -/
def fI (C : Int → Int → Bool) (h : Int → Int → Int) : PV → PV → Option PV
  | .int i, .int j => if C i j = true then some (.int (h i j)) else none
  | _, _ => none
def fB (h : Int → Int → Bool) : PV → PV → Option PV
  | .int i, .int j => some (.bl (h i j))
  | _, _ => none
theorem hfI {C : Int → Int → Prop} {D : Int → Int → Bool} {h : Int → Int → Int} (hc : ∀ i j, D i j = true → C i j) : ∀ W H x y p q z (Q : VK), Same W.F H → Rep G W x p → Rep G W y q → fI D h p q = some z → (∀ v, Rep G W v z → Q v H) → rI C (fun i j => .int (h i j)) x y H Q := by
  intro W H x y p q z Q _ r1 r2 e k
  cases r1 <;> first | (cases e; done) | skip
  cases r2 <;> first | (cases e; done) | skip
  rename_i i j
  have e : (if D i j = true then some (PV.int (h i j)) else none) = some z := e
  by_cases hd : D i j = true
  · rw [if_pos hd] at e
    cases e
    exact ⟨i, j, rfl, rfl, hc i j hd, k _ (.int _)⟩
  · rw [if_neg hd] at e; cases e
theorem hfI0 {h : Int → Int → Int} : ∀ W H x y p q z (Q : VK), Same W.F H → Rep G W x p → Rep G W y q → fI (fun _ _ => true) h p q = some z → (∀ v, Rep G W v z → Q v H) → rI0 (fun i j => .int (h i j)) x y H Q := by
  intro W H x y p q z Q h0 r1 r2 e k
  obtain ⟨i, j, e1, e2, _, q⟩ := hfI (C := fun _ _ => True) (D := fun _ _ => true) (h := h) (fun _ _ _ => trivial) W H x y p q z Q h0 r1 r2 e k
  exact ⟨i, j, e1, e2, q⟩
theorem hfB {h : Int → Int → Bool} : ∀ W H x y p q z (Q : VK), Same W.F H → Rep G W x p → Rep G W y q → fB h p q = some z → (∀ v, Rep G W v z → Q v H) → rI0 (fun i j => .bl (h i j)) x y H Q := by
  intro W H x y p q z Q _ r1 r2 e k
  cases r1 <;> first | (cases e; done) | skip
  cases r2 <;> first | (cases e; done) | skip
  rename_i i j
  cases e
  exact ⟨i, j, rfl, rfl, k _ (.bl _)⟩
def mulG (i j : Int) : Bool := decide (i.natAbs.log2 + j.natAbs.log2 < 134000000)
theorem mulG_ok {i j : Int} (h : mulG i j = true) : IntMulOk i j := by
  have b : ∀ x : Int, Builtin.Int.intBits x ≤ x.natAbs.log2 + 1 := fun x => by
    unfold Builtin.Int.intBits
    split <;> omega
  have h1 := b i
  have h2 := b j
  have h3 : i.natAbs.log2 + j.natAbs.log2 < 134000000 := of_decide_eq_true h
  have e : bitsLine = 134217728 := by decide
  unfold IntMulOk
  intro z
  rw [Bool.and_eq_true] at z
  have z2 := z.2
  unfold Builtin.Int.intTooBig at z2
  have z3 := of_decide_eq_true z2
  rw [e] at z3
  omega
theorem op_mulB : OpR X (binaryOp .Mult) (rI (fun i j => mulG i j = true) fun i j => .int (i * j)) := opI fun _ _ _ _ _ _ _ hc q => PyProof.Rows.mul_int q (mulG_ok hc)
/-- // by great numbers wants this of the context -/
structure Big (X : Cx) : Prop where
  seer : X.base.NoSeer
  tree : X.prog.given.tree = none
  fr : ∃ env l, X.stack = env :: l ∧ env.scope.isGenerator = false ∧ env.scope.isCoroutine = false ∧ env.builtins = builtinsNs ∧ env.globals = mainGlobals
  dp : X.A.depth + Builtin.pylongFrames < recursionLimit
theorem Big.room (B : Big X) {pins : List (Addr × Obj)} {σ : L2.St} {H : Hp} {s : Shared} (I : Inv X pins σ H s) : PylongRoom (model X.prog X.w) X.A s := by
  obtain ⟨env, l, h1, h2, h3, h4, h5⟩ := B.fr
  exact PylongRoom.of I.nolimit B.dp (SeerAt.of (B.seer.keeps I.bk) B.tree (by rw [I.ok.frames, h1]) h2 h3 h4 h5)
theorem op_fdivB (B : Big X) : OpR X (binaryOp .FloorDiv) (rI (fun _ j => 0 < j) fun i j => .int (i / j)) := by
  intro pins s σ H x y v u Q I rx ry h
  obtain ⟨i, j, rfl, rfl, hc, q⟩ := h
  obtain ⟨t, rfl⟩ := rx
  obtain ⟨t', rfl⟩ := ry
  refine PyProof.Rows.floordiv_int (by omega) ?_ (.inr (B.room I))
  rw [Int.fdiv_eq_ediv_of_nonneg i (by omega)]
  exact ⟨.int (i / j), H, I.tok _, ⟨_, rfl⟩, q⟩
def addI := fI (fun _ _ => true) fun i j => i + j
def subI := fI (fun _ _ => true) fun i j => i - j
def mulI := fI mulG fun i j => i * j
def divI := fI (fun _ j => decide (0 < j)) fun i j => i / j
def modI := fI (fun _ j => decide (0 < j)) fun i j => i % j
def powI := fI (fun i j => decide (0 ≤ j) && (decide (j ≤ 1000000) && decide (i.natAbs < 2 ^ 64))) fun i j => i ^ j.toNat
theorem r_addI (ha : PE X a (tP G wx ma)) (hb : PE X b (tP G wx mb)) : PE X (.BinOp a .Add b pos) (tP G wx (op2 addI ma mb)) := (pe_op op_add ha hb).weak (rd_op2 hfI0)
theorem r_subI (ha : PE X a (tP G wx ma)) (hb : PE X b (tP G wx mb)) : PE X (.BinOp a .Sub b pos) (tP G wx (op2 subI ma mb)) := (pe_op op_sub ha hb).weak (rd_op2 hfI0)
theorem r_mulI (ha : PE X a (tP G wx ma)) (hb : PE X b (tP G wx mb)) : PE X (.BinOp a .Mult b pos) (tP G wx (op2 mulI ma mb)) := (pe_op op_mulB ha hb).weak (rd_op2 (hfI fun _ _ h => h))
theorem r_divI (B : Big X) (ha : PE X a (tP G wx ma)) (hb : PE X b (tP G wx mb)) : PE X (.BinOp a .FloorDiv b pos) (tP G wx (op2 divI ma mb)) := (pe_op (op_fdivB B) ha hb).weak (rd_op2 (hfI fun _ _ h => of_decide_eq_true h))
theorem r_modI (ha : PE X a (tP G wx ma)) (hb : PE X b (tP G wx mb)) : PE X (.BinOp a .Mod b pos) (tP G wx (op2 modI ma mb)) := (pe_op op_mod ha hb).weak (rd_op2 (hfI fun _ _ h => of_decide_eq_true h))
theorem r_powI (ha : PE X a (tP G wx ma)) (hb : PE X b (tP G wx mb)) : PE X (.BinOp a .Pow b pos) (tP G wx (op2 powI ma mb)) := (pe_op op_pow ha hb).weak (rd_op2 (hfI fun i j h => by
  rw [Bool.and_eq_true, Bool.and_eq_true] at h
  exact ⟨of_decide_eq_true h.1, of_decide_eq_true h.2.1, of_decide_eq_true h.2.2⟩))
def negI : PV → Option PV
  | .int i => some (.int (-i))
  | _ => none
theorem r_negI (ha : PE X a (tP G wx ma)) : PE X (.UnaryOp .USub a pos) (tP G wx (op1 negI ma)) := (pe_un un_neg ha).weak (rd_op1 fun W H x p z Q _ r e k => by
  cases r <;> first | (cases e; done) | skip
  cases e
  exact ⟨_, rfl, k _ (.int _)⟩)

/-! ### comparisons -/
def ltI := fB fun i j => decide (i < j)
def leI := fB fun i j => decide (i ≤ j)
def gtI := fB fun i j => decide (j < i)
def geI := fB fun i j => decide (j ≤ i)
/-- a comparison: as a value, as a test -/
theorem r_cmp {op : CmpOp} {r : R2} {f : PV → PV → Option PV} (ho : OpR X (compareOp op) r) (hf : ∀ W H x y p q z (Q : VK), Same W.F H → Rep G W x p → Rep G W y q → f p q = some z → (∀ v, Rep G W v z → Q v H) → r x y H Q)
    (ha : PE X a (tP G wx ma)) (hb : PE X b (tP G wx mb)) (hm : behindInMarks op b = false) : PE X (.Compare a [op] [b] pos) (tP G wx (op2 f ma mb)) := (pe_cmpR ho ha hb hm).weak (rd_op2 hf)
theorem r_cmpT {op : CmpOp} {r : R2} {f : PV → PV → Option PV} (ho : OpR X (compareOp op) r) (hf : ∀ W H x y p q z (Q : VK), Same W.F H → Rep G W x p → Rep G W y q → f p q = some z → (∀ v, Rep G W v z → Q v H) → r x y H Q)
    (ha : PE X a (tP G wx ma)) (hb : PE X b (tP G wx mb)) (hm : behindInMarks op b = false) : PT X (.Compare a [op] [b] pos) (tT G wx (bP (op2 f ma mb))) :=
  (pt_cmpR ho ha hb hm).weak fun σ H Q ⟨H0, W, st, env, o, q⟩ => rd_op2 hf σ H _ ⟨H0, W, st, env, o, (Post.split q).mono fun p W1 st1 H1 s g q v r => by
    cases r with
    | bl b => exact ⟨b, rfl, q.here g⟩
    | _ => exact q.elim⟩
theorem r_lt (ha : PE X a (tP G wx ma)) (hb : PE X b (tP G wx mb)) : PE X (.Compare a [.Lt] [b] pos) (tP G wx (op2 ltI ma mb)) := r_cmp op_lt hfB ha hb (nomark _)
theorem r_le (ha : PE X a (tP G wx ma)) (hb : PE X b (tP G wx mb)) : PE X (.Compare a [.LtE] [b] pos) (tP G wx (op2 leI ma mb)) := r_cmp op_le hfB ha hb (nomark _)
theorem r_gt (ha : PE X a (tP G wx ma)) (hb : PE X b (tP G wx mb)) : PE X (.Compare a [.Gt] [b] pos) (tP G wx (op2 gtI ma mb)) := r_cmp op_gt hfB ha hb (nomark _)
theorem r_ge (ha : PE X a (tP G wx ma)) (hb : PE X b (tP G wx mb)) : PE X (.Compare a [.GtE] [b] pos) (tP G wx (op2 geI ma mb)) := r_cmp op_ge hfB ha hb (nomark _)
theorem r_ltT (ha : PE X a (tP G wx ma)) (hb : PE X b (tP G wx mb)) : PT X (.Compare a [.Lt] [b] pos) (tT G wx (bP (op2 ltI ma mb))) := r_cmpT op_lt hfB ha hb (nomark _)
theorem r_leT (ha : PE X a (tP G wx ma)) (hb : PE X b (tP G wx mb)) : PT X (.Compare a [.LtE] [b] pos) (tT G wx (bP (op2 leI ma mb))) := r_cmpT op_le hfB ha hb (nomark _)
theorem r_gtT (ha : PE X a (tP G wx ma)) (hb : PE X b (tP G wx mb)) : PT X (.Compare a [.Gt] [b] pos) (tT G wx (bP (op2 gtI ma mb))) := r_cmpT op_gt hfB ha hb (nomark _)
theorem r_geT (ha : PE X a (tP G wx ma)) (hb : PE X b (tP G wx mb)) : PT X (.Compare a [.GtE] [b] pos) (tT G wx (bP (op2 geI ma mb))) := r_cmpT op_ge hfB ha hb (nomark _)
def isN : PV → PV → Option PV
  | .non, .non => some (.bl true)
  | _, .non => some (.bl false)
  | _, _ => none
def ntN : PV → PV → Option PV
  | .non, .non => some (.bl false)
  | _, .non => some (.bl true)
  | _, _ => none
theorem hf_isN : ∀ W H x y p q z (Q : VK), Same W.F H → Rep G W x p → Rep G W y q → isN p q = some z → (∀ v, Rep G W v z → Q v H) → (fun (x y : V) (H : Hp) (Q : VK) => y = .non ∧ Q (.bl (decide (x = .non))) H) x y H Q := by
  intro W H x y p q z Q _ r1 r2 e k
  cases r2 <;> first | (cases r1 <;> cases e; done) | skip
  refine ⟨rfl, ?_⟩
  cases r1 <;> (cases e; exact k _ (.bl _))
theorem hf_ntN : ∀ W H x y p q z (Q : VK), Same W.F H → Rep G W x p → Rep G W y q → ntN p q = some z → (∀ v, Rep G W v z → Q v H) → (fun (x y : V) (H : Hp) (Q : VK) => y = .non ∧ Q (.bl (!decide (x = .non))) H) x y H Q := by
  intro W H x y p q z Q _ r1 r2 e k
  cases r2 <;> first | (cases r1 <;> cases e; done) | skip
  refine ⟨rfl, ?_⟩
  cases r1 <;> (cases e; exact k _ (.bl _))
theorem r_is (ha : PE X a (tP G wx ma)) (hb : PE X b (tP G wx mb)) : PE X (.Compare a [.Is] [b] pos) (tP G wx (op2 isN ma mb)) := r_cmp op_isN hf_isN ha hb (nomark _)
theorem r_isnot (ha : PE X a (tP G wx ma)) (hb : PE X b (tP G wx mb)) : PE X (.Compare a [.IsNot] [b] pos) (tP G wx (op2 ntN ma mb)) := r_cmp op_notN hf_ntN ha hb (nomark _)
theorem r_isT (ha : PE X a (tP G wx ma)) (hb : PE X b (tP G wx mb)) : PT X (.Compare a [.Is] [b] pos) (tT G wx (bP (op2 isN ma mb))) := r_cmpT op_isN hf_isN ha hb (nomark _)
theorem r_isnotT (ha : PE X a (tP G wx ma)) (hb : PE X b (tP G wx mb)) : PT X (.Compare a [.IsNot] [b] pos) (tT G wx (bP (op2 ntN ma mb))) := r_cmpT op_notN hf_ntN ha hb (nomark _)

/-! ### == of data -/
mutual
def toD : PV → Option PyData
  | .non => some .none
  | .bl b => some (.bool b)
  | .int i => some (.int i)
  | .str s => some (.str s)
  | .tup l => (toDs l).map .tuple
  | .lst l => (toDs l).map .list
  | .rd l => (toDs l).map .list
  | .obj _ _ => none
  | .dct _ _ => none
  | .exv _ _ => none
  | .ref _ => none
def toDs : List PV → Option (List PyData)
  | [] => some []
  | p :: l => (toD p).bind fun d => (toDs l).map fun ds => d :: ds
end
mutual
theorem toD_ok (g : Same W.F H) : ∀ {v : V} {p : PV} {d : PyData}, Rep G W v p → toD p = some d → Dp G.K H v d
  | _, _, _, .non, e => by simp [toD] at e; subst e; exact .non
  | _, _, _, .bl b, e => by simp [toD] at e; subst e; exact .bl b
  | _, _, _, .int i, e => by simp [toD] at e; subst e; exact .int i
  | _, _, _, .str s, e => by simp [toD] at e; subst e; exact .str s
  | _, _, _, .tup h r, e => by
    simp [toD] at e
    obtain ⟨ds, e1, rfl⟩ := e
    exact .tup (SqT.same g h) (toDs_ok g r e1)
  | _, _, _, .lst h r, e => by
    simp [toD] at e
    obtain ⟨ds, e1, rfl⟩ := e
    exact .lst (.of (g _ _ h)) (toDs_ok g r e1)
  | _, _, _, .rd h r, e => by
    simp [toD] at e
    obtain ⟨ds, e1, rfl⟩ := e
    exact .lst (g.seq h) (toDs_ok g r e1)
  | _, _, _, .obj _ _ _, e => by simp [toD] at e
  | _, _, _, .dct _ _ _, e => by simp [toD] at e
  | _, _, _, .exv0 _, e => by simp [toD] at e
  | _, _, _, .exv1 _ _ _ _, e => by simp [toD] at e
  | _, _, _, .ref _, e => by simp [toD] at e
theorem toDs_ok (g : Same W.F H) : ∀ {vs : List V} {l : List PV} {ds : List PyData}, RepL G W vs l → toDs l = some ds → DpAll G.K H vs ds
  | _, _, _, .nil, e => by simp [toDs] at e; subst e; exact .nil
  | _, _, _, .cons h r, e => by
    simp only [toDs, Option.bind_eq_some_iff, Option.map_eq_some_iff] at e
    obtain ⟨d, e1, ds, e2, rfl⟩ := e
    exact .cons (toD_ok g h e1) (toDs_ok g r e2)
end
def eqP (p q : PV) : Option PV := match toD p, toD q with
  | some d, some e => if SeqAt.shaped d = true ∧ SeqAt.shaped e = true then some (.bl (PyData.eqv d e)) else none
  | _, _ => none
def neP (p q : PV) : Option PV := match toD p, toD q with
  | some d, some e => if SeqAt.shaped d = true ∧ SeqAt.shaped e = true then some (.bl (!PyData.eqv d e)) else none
  | _, _ => none
theorem hf_eqP : ∀ W H x y p q z (Q : VK), Same W.F H → Rep G W x p → Rep G W y q → eqP p q = some z → (∀ v, Rep G W v z → Q v H) → rEqD G.K x y H Q := by
  intro W H x y p q z Q g r1 r2 e k
  unfold eqP at e
  split at e
  · rename_i d e' h1 h2
    split at e
    · rename_i hs
      cases e
      exact ⟨d, e', toD_ok g r1 h1, toD_ok g r2 h2, hs.1, hs.2, k _ (.bl _)⟩
    · cases e
  · cases e
theorem hf_neP : ∀ W H x y p q z (Q : VK), Same W.F H → Rep G W x p → Rep G W y q → neP p q = some z → (∀ v, Rep G W v z → Q v H) → rNeD G.K x y H Q := by
  intro W H x y p q z Q g r1 r2 e k
  unfold neP at e
  split at e
  · rename_i d e' h1 h2
    split at e
    · rename_i hs
      cases e
      exact ⟨d, e', toD_ok g r1 h1, toD_ok g r2 h2, hs.1, hs.2, k _ (.bl _)⟩
    · cases e
  · cases e
variable (hK : X.K = G.K) (hu : X.A.units + 64 < cLine)
include hK hu
theorem r_eq (ha : PE X a (tP G wx ma)) (hb : PE X b (tP G wx mb)) : PE X (.Compare a [.Eq] [b] pos) (tP G wx (op2 eqP ma mb)) := r_cmp (op_eqD hu) (by rw [hK]; exact hf_eqP) ha hb (nomark _)
theorem r_ne (ha : PE X a (tP G wx ma)) (hb : PE X b (tP G wx mb)) : PE X (.Compare a [.NotEq] [b] pos) (tP G wx (op2 neP ma mb)) := r_cmp (op_neD hu) (by rw [hK]; exact hf_neP) ha hb (nomark _)
theorem r_eqT (ha : PE X a (tP G wx ma)) (hb : PE X b (tP G wx mb)) : PT X (.Compare a [.Eq] [b] pos) (tT G wx (bP (op2 eqP ma mb))) := r_cmpT (op_eqD hu) (by rw [hK]; exact hf_eqP) ha hb (nomark _)
theorem r_neT (ha : PE X a (tP G wx ma)) (hb : PE X b (tP G wx mb)) : PT X (.Compare a [.NotEq] [b] pos) (tT G wx (bP (op2 neP ma mb))) := r_cmpT (op_neD hu) (by rw [hK]; exact hf_neP) ha hb (nomark _)
omit hK hu

/-! ### and, or, not -/
variable {mA mB : Ev → M Bool} {rest : List Expr}
def andT (m n : Ev → M Bool) : Ev → M Bool := fun env => bnd (m env) fun c => if c = true then n env else ret false
def orT (m n : Ev → M Bool) : Ev → M Bool := fun env => bnd (m env) fun c => if c = true then ret true else n env
def notT (m : Ev → M Bool) : Ev → M Bool := fun env => bnd (m env) fun c => ret (!c)
theorem r_and1 (h : PT X a (tT G wx mA)) : PW X (.BoolOp .And [a] pos) (tT G wx mA) := pw_and1 h
theorem r_or1 (h : PT X a (tT G wx mA)) : PW X (.BoolOp .Or [a] pos) (tT G wx mA) := pw_or1 h
theorem r_andW (h : PT X a (tT G wx mA)) (h2 : PW X (.BoolOp .And (b :: rest) pos) (tT G wx mB)) : PW X (.BoolOp .And (a :: b :: rest) pos) (tT G wx (andT mA mB)) :=
  ⟨fun wh pins s σ H Q I ⟨H0, W, st, env, o, q⟩ => (pw_and h h2).run wh pins s σ H Q I ⟨H0, W, st, env, o, (Post.split q).mono fun c W1 st1 H1 s g q => by
    cases c with
    | true => exact ⟨H0, W1, st1, env, o.step s g, q⟩
    | false => exact Post.here (a := false) q g⟩⟩
theorem r_orW (h : PT X a (tT G wx mA)) (h2 : PW X (.BoolOp .Or (b :: rest) pos) (tT G wx mB)) : PW X (.BoolOp .Or (a :: b :: rest) pos) (tT G wx (orT mA mB)) :=
  ⟨fun wh pins s σ H Q I ⟨H0, W, st, env, o, q⟩ => (pw_or h h2).run wh pins s σ H Q I ⟨H0, W, st, env, o, (Post.split q).mono fun c W1 st1 H1 s g q => by
    cases c with
    | false => exact ⟨H0, W1, st1, env, o.step s g, q⟩
    | true => exact Post.here (a := true) q g⟩⟩
theorem r_notT (h : PT X a (tT G wx mA)) : PT X (.UnaryOp .Not a pos) (tT G wx (notT mA)) :=
  (pt_not h).weak fun σ H Q ⟨H0, W, st, env, o, q⟩ => ⟨H0, W, st, env, o, (Post.split q).mono fun c W1 st1 H1 s g q => q.here g⟩
def andP (m n : Ev → M PV) : Ev → M PV := fun env => bnd (bP m env) fun c => if c = true then n env else ret (.bl false)
def orP (m n : Ev → M PV) : Ev → M PV := fun env => bnd (bP m env) fun c => if c = true then ret (.bl true) else n env
def notP (m : Ev → M PV) : Ev → M PV := fun env => bnd (bP m env) fun c => ret (.bl (!c))
theorem bP_split {α : Type} {R : α → Wd → Store → Hp → Prop} {f : Bool → M α} (h : Post G wx σ W st H R (bnd (bP ma env) f st)) :
    Post G wx σ W st H (fun p W1 st1 H1 => ∀ v, Rep G W1 v p → ∃ c, v = .bl c ∧ Post G wx σ W1 st1 H1 R (f c st1)) (ma env st) :=
  (Post.split (Post.split h)).mono fun p W1 st1 H1 s g q v r => by
    cases r with
    | bl b => exact ⟨b, rfl, Post.here (a := b) q g⟩
    | _ => exact q.elim
theorem r_oneP {op} (h : PE X a (tP G wx ma)) : PE X (.BoolOp op [a] pos) (tP G wx ma) := pe_one h
theorem r_andP (h : PE X a (tP G wx ma)) (h2 : PE X (.BoolOp .And (b :: rest) pos) (tP G wx mb)) : PE X (.BoolOp .And (a :: b :: rest) pos) (tP G wx (andP ma mb)) :=
  (pe_and h h2).weak fun σ H Q ⟨H0, W, st, env, o, q⟩ => ⟨H0, W, st, env, o, (bP_split q).mono fun p W1 st1 H1 s g q v r => by
    obtain ⟨c, rfl, q⟩ := q v r
    refine ⟨c, rfl, ?_⟩
    cases c with
    | true => exact ⟨H0, W1, st1, env, o.step s g, q⟩
    | false => exact Post.here (a := PV.bl false) q g _ (.bl _)⟩
theorem r_orP (h : PE X a (tP G wx ma)) (h2 : PE X (.BoolOp .Or (b :: rest) pos) (tP G wx mb)) : PE X (.BoolOp .Or (a :: b :: rest) pos) (tP G wx (orP ma mb)) :=
  (pe_or h h2).weak fun σ H Q ⟨H0, W, st, env, o, q⟩ => ⟨H0, W, st, env, o, (bP_split q).mono fun p W1 st1 H1 s g q v r => by
    obtain ⟨c, rfl, q⟩ := q v r
    refine ⟨c, rfl, ?_⟩
    cases c with
    | false => exact ⟨H0, W1, st1, env, o.step s g, q⟩
    | true => exact Post.here (a := PV.bl true) q g _ (.bl _)⟩
theorem r_notP (h : PE X a (tP G wx ma)) : PE X (.UnaryOp .Not a pos) (tP G wx (notP ma)) :=
  (pe_not h).weak fun σ H Q ⟨H0, W, st, env, o, q⟩ => ⟨H0, W, st, env, o, (bP_split q).mono fun p W1 st1 H1 s g q v r => by
    obtain ⟨c, rfl, q⟩ := q v r
    exact ⟨c, rfl, q.here g _ (.bl _)⟩⟩
def ifE (c : Ev → M Bool) (m n : Ev → M PV) : Ev → M PV := fun env => bnd (c env) fun d => if d = true then m env else n env
theorem r_ifE {c : Expr} (hc : PT X c (tT G wx mA)) (h : PE X a (tP G wx ma)) (h2 : PE X b (tP G wx mb)) : PE X (.IfExp c a b pos) (tP G wx (ifE mA ma mb)) :=
  (pe_ifExp hc h h2).weak fun σ H Q ⟨H0, W, st, env, o, q⟩ => ⟨H0, W, st, env, o, (Post.split q).mono fun d W1 st1 H1 s g q => by
    cases d with
    | true => exact ⟨H0, W1, st1, env, o.step s g, q⟩
    | false => exact ⟨H0, W1, st1, env, o.step s g, q⟩⟩

/-! ### arguments, displays -/
variable {es : List Expr} {ms : Ev → M (List PV)}
def aNil : Ev → M (List PV) := fun _ => ret []
def aCons (m : Ev → M PV) (ms : Ev → M (List PV)) : Ev → M (List PV) := fun env => bnd (m env) fun p => bnd (ms env) fun l => ret (p :: l)
theorem r_nil : PA X [] (tA G wx aNil) := pa_nil.weak fun σ H Q ⟨H0, W, st, env, o, q⟩ => q.here o.g _ .nil
theorem r_cons (h : PE X e (tP G wx ma)) (h2 : PA X es (tA G wx ms)) (hs : starEach (e :: es) X.env = (false, eval e X.env) :: starEach es X.env := by rfl) : PA X (e :: es) (tA G wx (aCons ma ms)) :=
  (pa_cons h h2 hs).weak fun σ H Q ⟨H0, W, st, env, o, q⟩ => ⟨H0, W, st, env, o, (Post.split q).mono fun p W1 st1 H1 s g q v r =>
    ⟨H0, W1, st1, env, o.step s g, (Post.split q).mono fun l W2 st2 H2 s2 g2 q vs rs => q.here g2 _ (.cons (r.mono s2.le) rs)⟩⟩
def sizeOk (l : List PV) : M (List PV) := fun st => if l.length ≤ sizeLine then .ok l st else .no
theorem sizeOk_post {R : List PV → Wd → Store → Hp → Prop} {l : List PV} (h : Post G wx σ W st H R (sizeOk l st)) : l.length ≤ sizeLine ∧ Post G wx σ W st H R (.ok l st) := by
  unfold sizeOk at h
  split at h
  · rename_i z; exact ⟨z, h⟩
  · exact h.elim
def tupE (ms : Ev → M (List PV)) : Ev → M PV := fun env => bnd (ms env) fun l => bnd (sizeOk l) fun l => ret (.tup l)
def lstE (ms : Ev → M (List PV)) : Ev → M SV := fun env => bnd (ms env) fun l => bnd (sizeOk l) fun l => ret (.own (.lst l))
theorem r_tup {x1} (h : PA X es (tA G wx ms)) : PE X (.Tuple es x1 pos) (tP G wx (tupE ms)) :=
  (pe_tup h).weak fun σ H Q ⟨H0, W, st, env, o, q⟩ => ⟨H0, W, st, env, o, (Post.split q).mono fun l W1 st1 H1 s g q vs r => by
    obtain ⟨z, q⟩ := sizeOk_post (Post.split q)
    refine ⟨by rw [r.len]; exact z, fun p hp => ?_⟩
    obtain ⟨W2, g2, s2, r2⟩ := g.newT hp r
    exact (q.here g) W2 _ s2 g2 _ r2⟩
theorem r_lst (h : PA X es (tA G wx ms)) : PE X (.List es pos) (tV G wx (lstE ms)) :=
  (pe_lst h).weak fun σ H Q ⟨H0, W, st, env, o, q⟩ => ⟨H0, W, st, env, o, (Post.split q).mono fun l W1 st1 H1 s g q vs r => by
    obtain ⟨z, q⟩ := sizeOk_post (Post.split q)
    refine ⟨by rw [r.len]; exact z, fun p hp => ?_⟩
    obtain ⟨g2, s2, r2⟩ := g.newL hp r
    exact (q.here g) W1 _ s2 g2 _ ⟨p, rfl, r2 H s.there⟩⟩
end
end Mi

namespace Mi
open PySem L2
section
variable {G : Glo} {wx : WX} {W W' W1 W2 : Wd} {st st' st1 st2 : Store} {H H' H0 H1 H2 Hs : Hp} {σ : L2.St} {env : Ev}
variable {X : Cx} {a b e : Expr} {ma mb : Ev → M PV} {m : Ev → M SV} {pos : Pos} {es : List Expr} {ms : Ev → M (List PV)}
/-- what a value holds, as a sequence -/
def drf (p : PV) (st : Store) : Option (List PV) := match p with
  | .lst l => some l
  | .tup l => some l
  | .rd l => some l
  | .ref n => match st[n]? with
    | some (.lst l) => some l
    | _ => none
  | _ => none
/-- .. as a list -/
def drfL (p : PV) (st : Store) : Option (List PV) := match p with
  | .lst l => some l
  | .ref n => match st[n]? with
    | some (.lst l) => some l
    | _ => none
  | _ => none
theorem drfL_ok (g : Good G W st H) {v : V} {p : PV} {l : List PV} (r : Rep G W v p) (e : drfL p st = some l) : ∃ a vs, v = .ref a ∧ H a = some (.lst vs) ∧ RepL G W vs l := by
  cases r with
  | lst h r => cases e; exact ⟨_, _, rfl, g.at h, r⟩
  | @ref n a h =>
    have e' : (match st[n]? with | some (.lst l) => some l | _ => none) = some l := e
    cases e2 : st[n]? with
    | none => rw [e2] at e'; cases e'
    | some c =>
      rw [e2] at e'
      have z := g.cell n a c h e2
      cases c with
      | dead => cases e'
      | ins c l => cases e'
      | dct c l => cases e'
      | lst l => cases e'; obtain ⟨_, vs, ev, r⟩ := z rfl; exact ⟨_, vs, rfl, ev, r⟩
  | _ => cases e
theorem drf_ok (g : Good G W st H) {v : V} {p : PV} {l : List PV} (r : Rep G W v p) (e : drf p st = some l) : ∃ a vs, v = .ref a ∧ (SqL G.K H a vs ∨ SqT G.K H a vs) ∧ RepL G W vs l := by
  cases r with
  | lst h r => cases e; exact ⟨_, _, rfl, .inl (.of (g.at h)), r⟩
  | tup h r => cases e; exact ⟨_, _, rfl, .inr (SqT.same g.sub h), r⟩
  | rd h r => cases e; exact ⟨_, _, rfl, .inl (g.sub.seq h), r⟩
  | @ref n a h =>
    obtain ⟨a', vs, h1, h2, h3⟩ := drfL_ok (l := l) g (.ref h) e
    exact ⟨a', vs, h1, .inl (.of h2), h3⟩
  | _ => cases e
def sget (f : Store → Option α) : M α := fun st => match f st with
  | some a => .ok a st
  | none => .no
theorem sget_post {α : Type} {R : α → Wd → Store → Hp → Prop} {f : Store → Option α} (g : Good G W st H) (h : Post G wx σ W st H R (sget f st)) : ∃ a, f st = some a ∧ R a W st H := by
  unfold sget at h
  cases e : f st with
  | none => rw [e] at h; exact h.elim
  | some a => rw [e] at h; exact ⟨a, rfl, h.here g⟩

/-! ### generic: two values, arguments; a tree out or a new list out, by the store -/
def op2S (f : PV → PV → Store → Option PV) (ma mb : Ev → M PV) : Ev → M PV := fun env => bnd (ma env) fun p => bnd (mb env) fun q => sget (f p q)
def op2L (f : PV → PV → Store → Option (List PV)) (ma mb : Ev → M PV) : Ev → M SV := fun env => bnd (ma env) fun p => bnd (mb env) fun q => bnd (sget (f p q)) fun l => ret (.own (.lst l))
theorem rd_op2S {r : R2} {f : PV → PV → Store → Option PV} (hf : ∀ W st H x y p q z (Q : VK), Good G W st H → Rep G W x p → Rep G W y q → f p q st = some z → (∀ v, Rep G W v z → Q v H) → r x y H Q) :
    ∀ σ H Q, tP G wx (op2S f ma mb) σ H Q → tOp r (tP G wx ma) (tP G wx mb) σ H Q := fun σ H Q ⟨H0, W, st, env, o, q⟩ => by
  refine ⟨H0, W, st, env, o, (Post.split q).mono fun p W1 st1 H1 s g q v r => ?_⟩
  refine ⟨H0, W1, st1, env, o.step s g, (Post.split q).mono fun p2 W2 st2 H2 s2 g2 q2 v2 r2 => ?_⟩
  obtain ⟨z, e, k⟩ := sget_post g2 q2
  exact hf W2 st2 H2 v v2 p p2 z Q g2 (r.mono s2.le) r2 e k
theorem rd_op2L {r : R2} {f : PV → PV → Store → Option (List PV)} (hf : ∀ W st H x y p q z (Q : VK), Good G W st H → Rep G W x p → Rep G W y q → f p q st = some z → (∀ a vs, H a = none → RepL G W vs z → Q (.ref a) (upd H a (.lst vs))) → r x y H Q) :
    ∀ σ H Q, tV G wx (op2L f ma mb) σ H Q → tOp r (tP G wx ma) (tP G wx mb) σ H Q := fun σ H Q ⟨H0, W, st, env, o, q⟩ => by
  refine ⟨H0, W, st, env, o, (Post.split q).mono fun p W1 st1 H1 s g q v r => ?_⟩
  refine ⟨H0, W1, st1, env, o.step s g, (Post.split q).mono fun p2 W2 st2 H2 s2 g2 q2 v2 r2 => ?_⟩
  obtain ⟨z, e, k⟩ := sget_post g2 (Post.split q2)
  refine hf W2 st2 H2 v v2 p p2 z Q g2 (r.mono s2.le) r2 e fun a vs ha rs => ?_
  obtain ⟨g3, s3, o3⟩ := g2.newL ha rs
  exact k W2 _ s3 g3 _ ⟨a, rfl, o3 H fun b hb => s.there b (s2.there b hb)⟩
def cbS (f : List PV → Store → Option PV) (ms : Ev → M (List PV)) : Ev → M PV := fun env => bnd (ms env) fun l => sget (f l)
def cbL (f : List PV → Store → Option (List PV)) (ms : Ev → M (List PV)) : Ev → M SV := fun env => bnd (ms env) fun l => bnd (sget (f l)) fun l => ret (.own (.lst l))
theorem rd_cbS {r : List V → Hp → VK → Prop} {f : List PV → Store → Option PV} (hf : ∀ W st H vs l z (Q : VK), Good G W st H → RepL G W vs l → f l st = some z → (∀ v, Rep G W v z → Q v H) → r vs H Q) :
    ∀ σ H Q, tP G wx (cbS f ms) σ H Q → tCB r (tA G wx ms) σ H Q := fun σ H Q ⟨H0, W, st, env, o, q⟩ => by
  refine ⟨H0, W, st, env, o, (Post.split q).mono fun l W1 st1 H1 s g q vs r => ?_⟩
  obtain ⟨z, e, k⟩ := sget_post g q
  exact hf W1 st1 H1 vs l z Q g r e k
theorem rd_cbL {r : List V → Hp → VK → Prop} {f : List PV → Store → Option (List PV)} (hf : ∀ W st H vs l z (Q : VK), Good G W st H → RepL G W vs l → f l st = some z → (∀ a ws, H a = none → RepL G W ws z → Q (.ref a) (upd H a (.lst ws))) → r vs H Q) :
    ∀ σ H Q, tV G wx (cbL f ms) σ H Q → tCB r (tA G wx ms) σ H Q := fun σ H Q ⟨H0, W, st, env, o, q⟩ => by
  refine ⟨H0, W, st, env, o, (Post.split q).mono fun l W1 st1 H1 s g q vs r => ?_⟩
  obtain ⟨z, e, k⟩ := sget_post g (Post.split q)
  refine hf W1 st1 H1 vs l z Q g r e fun a ws ha rs => ?_
  obtain ⟨g3, s3, o3⟩ := g.newL ha rs
  exact k W1 _ s3 g3 _ ⟨a, rfl, o3 H s.there⟩

/-! ### indices -/
def ixF (p q : PV) (st : Store) : Option PV := match q with
  | .int i => (drf p st).bind fun l => atI l i
  | _ => none
theorem atI_rep {vs : List V} {l : List PV} {i : Int} {p : PV} (r : RepL G W vs l) (e : atI l i = some p) : ∃ v, atI vs i = some v ∧ Rep G W v p := by
  unfold atI at e ⊢
  rw [r.len]
  cases q : ixN l.length i with
  | none => rw [q] at e; cases e
  | some j =>
    rw [q] at e
    exact RepL.get' r e
theorem r_ix (hK : X.K = G.K) (ha : PE X a (tP G wx ma)) (hb : PE X b (tP G wx mb)) (hs : PlainIx b := by exact fun _ _ => rfl) : PE X (.Subscript a b pos) (tP G wx (op2S ixF ma mb)) :=
  (pe_ix ix_seq ha hb hs).weak (rd_op2S fun W st H x y p q z Q g r1 r2 e k => by
    cases r2 <;> first | (cases e; done) | skip
    rename_i i
    have e' : ((drf p st).bind fun l => atI l i) = some z := e
    cases e2 : drf p st with
    | none => rw [e2] at e'; cases e'
    | some l =>
      rw [e2] at e'
      obtain ⟨ad, vs, rfl, h, r⟩ := drf_ok g r1 e2
      obtain ⟨v, e3, r3⟩ := atI_rep r e'
      rw [hK]
      rcases h with h | h
      · exact .inl ⟨ad, vs, i, v, rfl, rfl, h, e3, k v r3⟩
      · exact .inr (.inl ⟨ad, vs, i, v, rfl, rfl, h, e3, k v r3⟩))
/-- .. of an owned list's name -/
def onOwn {α : Type} (i : Nat) (f : List PV → Ev → M α) : Ev → M α := fun env => match env[i]? with
  | some (.own (.lst l)) => f l env
  | _ => fail
theorem own_post {α : Type} {R : α → Wd → Store → Hp → Prop} {i : Nat} {f : List PV → Ev → M α} (h : Post G wx σ W st H R (onOwn i f env st)) : ∃ l, env[i]? = some (.own (.lst l)) ∧ Post G wx σ W st H R (f l env st) := by
  unfold onOwn at h
  cases e : env[i]? with
  | none => rw [e] at h; exact h.elim
  | some sv =>
    rw [e] at h
    cases sv with
    | own c =>
      cases c with
      | lst l => exact ⟨l, rfl, h⟩
      | _ => exact h.elim
    | un => exact h.elim
    | t p => exact h.elim
def ixV (i : Nat) (mb : Ev → M PV) : Ev → M PV := onOwn i fun l env => bnd (mb env) fun q => match q with
    | .int j => lift (atI l j)
    | _ => fail
theorem EnvOk.own {i : Nat} {l : Cell} (o : EnvOk G W st H H0 σ env) (e : env[i]? = some (.own l)) : ∃ a, σ[i]? = some (some (.ref a)) ∧ OwnAt G W st H H0 a l := by
  obtain ⟨v, e1, a, e2, r⟩ := o.at_ i _ e
  exact ⟨a, by rw [e1, e2], r⟩
theorem r_ixV (hK : X.K = G.K) {i : Nat} {x : Str} {p' : Pos} (hN : X.N[i]? = some x) (hb : PE X b (tP G wx mb)) (hv : Vis X.env.scope x := by first | exact .inl rfl | exact .inr (.inl rfl) | exact .inr (.inr rfl)) (hs : PlainIx b := by exact fun _ _ => rfl) (hd : (x == ("__debug__" : Str)) = false := by decide) (hcd : (x == ("__classdict__" : Str)) = false := by decide) :
    PE X (.Subscript (.Name x p') b pos) (tP G wx (ixV i mb)) :=
  (pe_ix ix_list (pe_var hN hv hd hcd) hb hs).weak fun σ H Q ⟨H0, W, st, env, o, q⟩ => by
    obtain ⟨l, e, q⟩ := own_post q
    · obtain ⟨a, e1, r⟩ := o.e.own e
      refine ⟨_, e1, H0, W, st, env, o, (Post.split q).mono fun p W1 st1 H1 s g q v rv => ?_⟩
      cases rv <;> first | (exact q.elim) | skip
      rename_i j
      obtain ⟨z, e2, k⟩ := Post.lift q g
      obtain ⟨vs, h1, h2⟩ := (r.step s).ob
      obtain ⟨v, e3, r3⟩ := atI_rep h2 e2
      exact ⟨a, vs, j, v, rfl, rfl, (by rw [hK]; exact .of h1), e3, k v r3⟩

/-! ### slices of lists -/
def cutP {α : Type} (xs : List α) (lo hi : Option Int) : List α := (xs.drop (HT.sIx xs.length 0 lo)).take (HT.sIx xs.length xs.length hi - HT.sIx xs.length 0 lo)
theorem cut_rep {vs : List V} {l : List PV} {lo hi : Option Int} (r : RepL G W vs l) : RepL G W (cutV vs lo hi) (cutP l lo hi) := by
  unfold cutV cutP
  rw [r.len]
  exact (r.drop _).take _
/-- a part of a slice: left out, or an int -/
def oNone : Ev → M (Option Int) := fun _ => ret none
def oSome (m : Ev → M PV) : Ev → M (Option Int) := fun env => bnd (m env) fun p => match p with
  | .int i => ret (some i)
  | _ => fail
def tO (G : Glo) (wx : WX) (m : Ev → M (Option Int)) : TO := fun σ H Q => ∃ H0 W st env, SOk G H0 W st H σ env ∧ Post G wx σ W st H (fun o W' st' H' => Q o H') (m env st)
theorem _root_.L2.PO.weak {e : Option Expr} {t t' : TO} (h : PO X e t) (w : ∀ σ H Q, t' σ H Q → t σ H Q) : PO X e t' := ⟨fun pins s σ H Q I q => h.run pins s σ H Q I (w σ H Q q)⟩
theorem r_oNone : PO X none (tO G wx oNone) := po_none.weak fun σ H Q ⟨H0, W, st, env, o, q⟩ => q.here o.g
theorem r_oSome (h : PE X e (tP G wx ma)) : PO X (some e) (tO G wx (oSome ma)) := (po_some h).weak fun σ H Q ⟨H0, W, st, env, o, q⟩ => ⟨H0, W, st, env, o, (Post.split q).mono fun p W1 st1 H1 s g q v r => by
  cases r <;> first | (exact q.elim) | skip
  rename_i i
  exact ⟨i, rfl, Post.here (a := some i) q g⟩⟩
variable {lo hi : Option Expr} {ml mh : Ev → M (Option Int)} {p2 : Pos}
def slL (ma : Ev → M PV) (ml mh : Ev → M (Option Int)) : Ev → M SV := fun env => bnd (ma env) fun p => bnd (ml env) fun l => bnd (mh env) fun h => bnd (sget (drfL p)) fun xs => ret (.own (.lst (cutP xs l h)))
theorem r_slL (hK : X.K = G.K) (ha : PE X e (tP G wx ma)) (hl : PO X lo (tO G wx ml)) (hh : PO X hi (tO G wx mh)) : PE X (.Subscript e (.Slice lo hi none p2) pos) (tV G wx (slL ma ml mh)) :=
  (pe_slice sl_list ha hl hh).weak fun σ H Q ⟨H0, W, st, env, o, q⟩ => ⟨H0, W, st, env, o, (Post.split q).mono fun p W1 st1 H1 s g q v r =>
    ⟨H0, W1, st1, env, o.step s g, (Post.split q).mono fun l W2 st2 H2 s2 g2 q => ⟨H0, W2, st2, env, (o.step s g).step s2 g2, (Post.split q).mono fun h W3 st3 H3 s3 g3 q => by
      obtain ⟨xs, e1, k⟩ := sget_post g3 (Post.split q)
      obtain ⟨a, vs, rfl, h1, r1⟩ := drfL_ok g3 ((r.mono s2.le).mono s3.le) e1
      refine ⟨a, vs, rfl, by rw [hK]; exact .of h1, fun b hb => ?_⟩
      obtain ⟨g4, s4, o4⟩ := g3.newL hb (cut_rep (lo := l) (hi := h) r1)
      exact k W3 _ s4 g4 _ ⟨b, rfl, o4 H fun c hc => s.there c (s2.there c (s3.there c hc))⟩⟩⟩⟩
/-- .. of a list that is read alone (the script) -/
def slRd (ma : Ev → M PV) (ml mh : Ev → M (Option Int)) : Ev → M SV := fun env => bnd (ma env) fun p => bnd (ml env) fun l => bnd (mh env) fun h => match p with
  | .rd xs => ret (.own (.lst (cutP xs l h)))
  | _ => fail
theorem r_slRd (hK : X.K = G.K) (ha : PE X e (tP G wx ma)) (hl : PO X lo (tO G wx ml)) (hh : PO X hi (tO G wx mh)) : PE X (.Subscript e (.Slice lo hi none p2) pos) (tV G wx (slRd ma ml mh)) :=
  (pe_slice sl_list ha hl hh).weak fun σ H Q ⟨H0, W, st, env, o, q⟩ => ⟨H0, W, st, env, o, (Post.split q).mono fun p W1 st1 H1 s g q v r =>
    ⟨H0, W1, st1, env, o.step s g, (Post.split q).mono fun l W2 st2 H2 s2 g2 q => ⟨H0, W2, st2, env, (o.step s g).step s2 g2, (Post.split q).mono fun h W3 st3 H3 s3 g3 q => by
      have r' := (r.mono s2.le).mono s3.le
      cases r' with
      | rd rr h1 =>
        refine ⟨_, _, rfl, by rw [hK]; exact g3.sub.seq rr, fun b hb => ?_⟩
        obtain ⟨g4, s4, o4⟩ := g3.newL hb (cut_rep (lo := l) (hi := h) h1)
        exact q W3 _ s4 g4 _ ⟨b, rfl, o4 H fun c hc => s.there c (s2.there c (s3.there c hc))⟩
      | _ => exact q.elim⟩⟩⟩

/-! ### lists added, repeated -/
def catF (p q : PV) (st : Store) : Option (List PV) := (drfL p st).bind fun l => (drfL q st).bind fun m => if l.length + m.length ≤ sizeLine then some (l ++ m) else none
theorem r_cat (ha : PE X a (tP G wx ma)) (hb : PE X b (tP G wx mb)) : PE X (.BinOp a .Add b pos) (tV G wx (op2L catF ma mb)) :=
  (pe_op op_cat ha hb).weak (rd_op2L fun W st H x y p q z Q g r1 r2 e k => by
    unfold catF at e
    simp only [Option.bind_eq_some_iff] at e
    obtain ⟨l, e1, m, e2, e3⟩ := e
    by_cases hl : l.length + m.length ≤ sizeLine
    · rw [if_pos hl] at e3
      cases e3
      obtain ⟨a1, vs, rfl, h1, q1⟩ := drfL_ok g r1 e1
      obtain ⟨a2, ws, rfl, h2, q2⟩ := drfL_ok g r2 e2
      exact ⟨a1, a2, vs, ws, rfl, rfl, h1, h2, by rw [q1.len, q2.len]; exact hl, fun p hp => k p _ hp (q1.append q2)⟩
    · rw [if_neg hl] at e3; cases e3)
def repF (p q : PV) (st : Store) : Option (List PV) := match q with
  | .int k => (drfL p st).bind fun l => if -(2 ^ 63) ≤ k ∧ k < 2 ^ 63 ∧ l.length * k.toNat ≤ sizeLine then some (List.flatten (List.replicate k.toNat l)) else none
  | _ => none

/-! ### built-in functions -/
variable {x : Str} {p : Pos} {bid T : String} {r : List V → Hp → VK → Prop}
theorem r_cbB {f : List PV → Store → Option PV} (hc : CallR X (.builtin bid) r) (hf : ∀ W st H vs l z (Q : VK), Good G W st H → RepL G W vs l → f l st = some z → (∀ v, Rep G W v z → Q v H) → r vs H Q) (hg : Gl X x) (hm : X.mg x = none) (hv : bootBuiltins x = some (.builtin bid)) (ha : PA X (e :: es) (tA G wx ms))
    (hn : x ≠ "__name__" := by decide) (hdb : (x == ("__debug__" : Str)) = false := by decide) (he : starEach (e :: es) X.env = (false, eval e X.env) :: starEach es X.env := by rfl) (hpl : (backTo pos (starEach es X.env)).any (·.1) = false := by rfl) :
    PE X (.Call (.Name x p) (e :: es) [] pos) (tP G wx (cbS f ms)) := (pe_callB hc hg hm hv ha hn hdb he hpl).weak (rd_cbS hf)
theorem r_cbTy {f : List PV → Store → Option PV} (hc : CallR X (.type T) r) (hf : ∀ W st H vs l z (Q : VK), Good G W st H → RepL G W vs l → f l st = some z → (∀ v, Rep G W v z → Q v H) → r vs H Q) (hg : Gl X x) (hm : X.mg x = none) (hv : bootBuiltins x = some (.type T)) (ha : PA X (e :: es) (tA G wx ms))
    (hn : x ≠ "__name__" := by decide) (hdb : (x == ("__debug__" : Str)) = false := by decide) (he : starEach (e :: es) X.env = (false, eval e X.env) :: starEach es X.env := by rfl) (hpl : (backTo pos (starEach es X.env)).any (·.1) = false := by rfl) :
    PE X (.Call (.Name x p) (e :: es) [] pos) (tP G wx (cbS f ms)) := (pe_callTy hc hg hm hv ha hn hdb he hpl).weak (rd_cbS hf)
theorem r_cbTyL {f : List PV → Store → Option (List PV)} (hc : CallR X (.type T) r) (hf : ∀ W st H vs l z (Q : VK), Good G W st H → RepL G W vs l → f l st = some z → (∀ a ws, H a = none → RepL G W ws z → Q (.ref a) (upd H a (.lst ws))) → r vs H Q) (hg : Gl X x) (hm : X.mg x = none) (hv : bootBuiltins x = some (.type T)) (ha : PA X (e :: es) (tA G wx ms))
    (hn : x ≠ "__name__" := by decide) (hdb : (x == ("__debug__" : Str)) = false := by decide) (he : starEach (e :: es) X.env = (false, eval e X.env) :: starEach es X.env := by rfl) (hpl : (backTo pos (starEach es X.env)).any (·.1) = false := by rfl) :
    PE X (.Call (.Name x p) (e :: es) [] pos) (tV G wx (cbL f ms)) := (pe_callTy hc hg hm hv ha hn hdb he hpl).weak (rd_cbL hf)
/-- one sequence -/
theorem rep1 {vs : List V} {p : PV} (r : RepL G W vs [p]) : ∃ v, vs = [v] ∧ Rep G W v p := by
  cases r with
  | cons h r => cases r; exact ⟨_, rfl, h⟩
theorem rep2 {vs : List V} {p q : PV} (r : RepL G W vs [p, q]) : ∃ v w, vs = [v, w] ∧ Rep G W v p ∧ Rep G W w q := by
  cases r with
  | cons h r =>
    cases r with
    | cons h2 r => cases r; exact ⟨_, _, rfl, h, h2⟩
def lenF (l : List PV) (st : Store) : Option PV := match l with
  | [.str s] => if s.length ≤ sizeLine then some (.int s.length) else none
  | [p] => (drf p st).map fun xs => .int xs.length
  | _ => none
theorem hf_len (hK : X.K = G.K) : ∀ W st H vs l z (Q : VK), Good G W st H → RepL G W vs l → lenF l st = some z → (∀ v, Rep G W v z → Q v H) → (fun xs (H : Hp) (Q : VK) => ∃ x n, xs = [x] ∧ LenV X.K x H n ∧ Q (.int n) H) vs H Q := by
  intro W st H vs l z Q g r e k
  match l, r with
  | [], r => cases e
  | _ :: _ :: _, r =>
    rename_i p p2 t
    cases p <;> cases e
  | [p], r =>
    obtain ⟨v, rfl, rp⟩ := rep1 r
    by_cases hs : ∃ s, p = .str s
    · obtain ⟨s, rfl⟩ := hs
      have e' : (if s.length ≤ sizeLine then some (PV.int s.length) else none) = some z := e
      by_cases hz : s.length ≤ sizeLine
      · rw [if_pos hz] at e'
        cases e'
        cases rp
        exact ⟨_, s.length, rfl, ⟨hz, rfl⟩, k _ (.int _)⟩
      · rw [if_neg hz] at e'; cases e'
    · have e' : ((drf p st).map fun xs => PV.int xs.length) = some z := by
        cases p <;> first | exact e | exact absurd ⟨_, rfl⟩ hs
      simp only [Option.map_eq_some_iff] at e'
      obtain ⟨xs, e1, rfl⟩ := e'
      obtain ⟨a, ws, rfl, h, r⟩ := drf_ok g rp e1
      refine ⟨_, xs.length, rfl, ?_, k _ (.int _)⟩
      rw [hK, ← r.len]
      rcases h with h | h
      · exact .inl ⟨ws, h, rfl⟩
      · exact .inr ⟨ws, h, rfl⟩
theorem r_len (hK : X.K = G.K) (hm : X.mg "len" = none) (ha : PA X [e] (tA G wx ms)) (hg : Gl X "len" := by rfl) (he : starEach [e] X.env = (false, eval e X.env) :: starEach [] X.env := by rfl) :
    PE X (.Call (.Name "len" p) [e] [] pos) (tP G wx (cbS lenF ms)) := r_cbB call_len (hf_len hK) hg hm PySem.boot_len ha (by decide) (by decide) he rfl
/-- len of an owned list's name -/
def lenV (i : Nat) : Ev → M PV := onOwn i fun l _ => ret (.int l.length)
theorem r_lenV (hK : X.K = G.K) {i : Nat} {y : Str} {p' : Pos} (hm : X.mg "len" = none) (hN : X.N[i]? = some y) (hv : Vis X.env.scope y := by first | exact .inl rfl | exact .inr (.inl rfl) | exact .inr (.inr rfl)) (hg : Gl X "len" := by rfl) (hd : (y == ("__debug__" : Str)) = false := by decide) (hcd : (y == ("__classdict__" : Str)) = false := by decide) :
    PE X (.Call (.Name "len" p) [.Name y p'] [] pos) (tP G wx (lenV i)) :=
  (pe_callB call_len_seq hg hm PySem.boot_len (pa_cons (pe_var hN hv hd hcd) pa_nil)).weak fun σ H Q ⟨H0, W, st, env, o, q⟩ => by
    obtain ⟨l, e, q⟩ := own_post q
    · obtain ⟨a, e1, r⟩ := o.e.own e
      obtain ⟨vs, h1, h2⟩ := r.ob
      refine ⟨_, e1, a, vs, rfl, (by rw [hK]; exact .inl (.of h1)), ?_⟩
      rw [h2.len]
      exact Post.here (a := PV.int _) q o.g _ (.int _)
/-- a name's length, an item of what a name holds: owned or a tree -/
def lenX (i : Nat) : Ev → M PV := fun env => match env[i]? with
  | some (.own (.lst l)) => ret (.int l.length)
  | some (.t p) => sget fun st => (drf p st).map fun xs => .int xs.length
  | _ => fail
theorem r_lenX (hK : X.K = G.K) {i : Nat} {y : Str} {p' : Pos} (hm : X.mg "len" = none) (hN : X.N[i]? = some y) (hv : Vis X.env.scope y := by first | exact .inl rfl | exact .inr (.inl rfl) | exact .inr (.inr rfl)) (hg : Gl X "len" := by rfl) (hd : (y == ("__debug__" : Str)) = false := by decide) (hcd : (y == ("__classdict__" : Str)) = false := by decide) :
    PE X (.Call (.Name "len" p) [.Name y p'] [] pos) (tP G wx (lenX i)) :=
  (pe_callB call_len_seq hg hm PySem.boot_len (pa_cons (pe_var hN hv hd hcd) pa_nil)).weak fun σ H Q ⟨H0, W, st, env, o, q⟩ => by
    unfold lenX at q
    cases e : env[i]? with
    | none => rw [e] at q; exact q.elim
    | some sv =>
      rw [e] at q
      cases sv with
      | un => exact q.elim
      | own c =>
        cases c with
        | lst l =>
          obtain ⟨a, e1, r⟩ := o.e.own e
          obtain ⟨vs, h1, h2⟩ := r.ob
          refine ⟨_, e1, a, vs, rfl, (by rw [hK]; exact .inl (.of h1)), ?_⟩
          rw [h2.len]
          exact Post.here (a := PV.int _) q o.g _ (.int _)
        | _ => exact q.elim
      | t p =>
        obtain ⟨v, e1, x, e2, r⟩ := o.e.at_ i _ e
        obtain ⟨z, e3, k⟩ := sget_post o.g q
        simp only [Option.map_eq_some_iff] at e3
        obtain ⟨xs, e4, rfl⟩ := e3
        obtain ⟨a, ws, rfl, h, r⟩ := drf_ok o.g r e4
        refine ⟨_, by rw [e1, e2], a, ws, rfl, by rw [hK]; exact h, ?_⟩
        rw [r.len]
        exact k _ (.int _)
def ixX (i : Nat) (mb : Ev → M PV) : Ev → M PV := fun env => match env[i]? with
  | some (.own (.lst l)) => bnd (mb env) fun q => match q with
    | .int j => lift (atI l j)
    | _ => fail
  | some (.t p) => bnd (mb env) fun q => sget (ixF p q)
  | _ => fail
theorem r_ixX (hK : X.K = G.K) {i : Nat} {x : Str} {p' : Pos} (hN : X.N[i]? = some x) (hb : PE X b (tP G wx mb)) (hv : Vis X.env.scope x := by first | exact .inl rfl | exact .inr (.inl rfl) | exact .inr (.inr rfl)) (hs : PlainIx b := by exact fun _ _ => rfl) (hd : (x == ("__debug__" : Str)) = false := by decide) (hcd : (x == ("__classdict__" : Str)) = false := by decide) :
    PE X (.Subscript (.Name x p') b pos) (tP G wx (ixX i mb)) :=
  (pe_ix ix_seq (pe_var hN hv hd hcd) hb hs).weak fun σ H Q ⟨H0, W, st, env, o, q⟩ => by
    unfold ixX at q
    cases e : env[i]? with
    | none => rw [e] at q; exact q.elim
    | some sv =>
      rw [e] at q
      cases sv with
      | un => exact q.elim
      | own c =>
        cases c with
        | lst l =>
          obtain ⟨a, e1, r⟩ := o.e.own e
          refine ⟨_, e1, H0, W, st, env, o, (Post.split q).mono fun p W1 st1 H1 s g q v rv => ?_⟩
          cases rv <;> first | (exact q.elim) | skip
          rename_i j
          obtain ⟨z, e2, k⟩ := Post.lift q g
          obtain ⟨vs, h1, h2⟩ := (r.step s).ob
          obtain ⟨v, e3, r3⟩ := atI_rep h2 e2
          exact .inl ⟨a, vs, j, v, rfl, rfl, (by rw [hK]; exact .of h1), e3, k v r3⟩
        | _ => exact q.elim
      | t p =>
        obtain ⟨v, e1, x, e2, r⟩ := o.e.at_ i _ e
        refine ⟨_, by rw [e1, e2], H0, W, st, env, o, (Post.split q).mono fun p2 W1 st1 H1 s g q v2 rv => ?_⟩
        obtain ⟨z, e3, k⟩ := sget_post g q
        cases rv <;> first | (cases e3; done) | skip
        rename_i j
        have e' : ((drf p st1).bind fun l => atI l j) = some z := e3
        cases e4 : drf p st1 with
        | none => rw [e4] at e'; cases e'
        | some l =>
          rw [e4] at e'
          obtain ⟨ad, vs, rfl, h, r⟩ := drf_ok g (r.mono s.le) e4
          obtain ⟨v, e5, r5⟩ := atI_rep r e'
          rw [hK]
          rcases h with h | h
          · exact .inl ⟨ad, vs, j, v, rfl, rfl, h, e5, k v r5⟩
          · exact .inr (.inl ⟨ad, vs, j, v, rfl, rfl, h, e5, k v r5⟩)
def absF (l : List PV) (_ : Store) : Option PV := match l with
  | [.int i] => some (.int (if i < 0 then -i else i))
  | _ => none
def max2F (l : List PV) (_ : Store) : Option PV := match l with
  | [.int i, .int j] => some (.int (if j > i then j else i))
  | _ => none
def min2F (l : List PV) (_ : Store) : Option PV := match l with
  | [.int i, .int j] => some (.int (if j < i then j else i))
  | _ => none
def int1F (l : List PV) (_ : Store) : Option PV := match l with
  | [.int i] => some (.int i)
  | [.bl b] => some (.int (if b then 1 else 0))
  | _ => none
theorem r_abs (hm : X.mg "abs" = none) (ha : PA X [e] (tA G wx ms)) (hg : Gl X "abs" := by rfl) (he : starEach [e] X.env = (false, eval e X.env) :: starEach [] X.env := by rfl) :
    PE X (.Call (.Name "abs" p) [e] [] pos) (tP G wx (cbS absF ms)) := r_cbB (r := fun xs H Q => ∃ i, xs = [.int i] ∧ Q (.int (if i < 0 then -i else i)) H) call_abs (fun W st H vs l z Q g r e k => by
    unfold absF at e
    split at e
    · cases e
      obtain ⟨v, rfl, rp⟩ := rep1 r
      cases rp
      exact ⟨_, rfl, k _ (.int _)⟩
    · cases e) hg hm (by decide +kernel) ha (by decide) (by decide) he rfl
theorem r_max2 (hc : X.calm = true) (hm : X.mg "max" = none) {e2 : Expr} (ha : PA X [e, e2] (tA G wx ms)) (hg : Gl X "max" := by rfl) (he : starEach [e, e2] X.env = (false, eval e X.env) :: starEach [e2] X.env := by rfl) (hpl : (backTo pos (starEach [e2] X.env)).any (·.1) = false := by rfl) :
    PE X (.Call (.Name "max" p) [e, e2] [] pos) (tP G wx (cbS max2F ms)) := r_cbB (call_max2 hc) (fun W st H vs l z Q g r e k => by
    unfold max2F at e
    split at e
    · cases e
      obtain ⟨v, w, rfl, rp, rq⟩ := rep2 r
      cases rp; cases rq
      exact ⟨_, _, rfl, k _ (.int _)⟩
    · cases e) hg hm (by decide +kernel) ha (by decide) (by decide) he hpl
theorem r_min2 (hc : X.calm = true) (hm : X.mg "min" = none) {e2 : Expr} (ha : PA X [e, e2] (tA G wx ms)) (hg : Gl X "min" := by rfl) (he : starEach [e, e2] X.env = (false, eval e X.env) :: starEach [e2] X.env := by rfl) (hpl : (backTo pos (starEach [e2] X.env)).any (·.1) = false := by rfl) :
    PE X (.Call (.Name "min" p) [e, e2] [] pos) (tP G wx (cbS min2F ms)) := r_cbB (call_min2 hc) (fun W st H vs l z Q g r e k => by
    unfold min2F at e
    split at e
    · cases e
      obtain ⟨v, w, rfl, rp, rq⟩ := rep2 r
      cases rp; cases rq
      exact ⟨_, _, rfl, k _ (.int _)⟩
    · cases e) hg hm (by decide +kernel) ha (by decide) (by decide) he hpl
theorem r_int1 (hm : X.mg "int" = none) (ha : PA X [e] (tA G wx ms)) (hg : Gl X "int" := by rfl) (he : starEach [e] X.env = (false, eval e X.env) :: starEach [] X.env := by rfl) :
    PE X (.Call (.Name "int" p) [e] [] pos) (tP G wx (cbS int1F ms)) := r_cbTy call_int1 (fun W st H vs l z Q g r e k => by
    unfold int1F at e
    split at e
    · cases e
      obtain ⟨v, rfl, rp⟩ := rep1 r
      cases rp
      exact .inl ⟨_, rfl, k _ (.int _)⟩
    · cases e
      obtain ⟨v, rfl, rp⟩ := rep1 r
      cases rp
      exact .inr ⟨_, rfl, k _ (.int _)⟩
    · cases e) hg hm (by decide +kernel) ha (by decide) (by decide) he rfl
def listF (l : List PV) (st : Store) : Option (List PV) := match l with
  | [p] => drf p st
  | _ => none
theorem r_list (hK : X.K = G.K) (hm : X.mg "list" = none) (ha : PA X [e] (tA G wx ms)) (hg : Gl X "list" := by rfl) (he : starEach [e] X.env = (false, eval e X.env) :: starEach [] X.env := by rfl) :
    PE X (.Call (.Name "list" p) [e] [] pos) (tV G wx (cbL listF ms)) := r_cbTyL call_list_of (fun W st H vs l z Q g r e k => by
    unfold listF at e
    split at e
    · obtain ⟨v, rfl, rp⟩ := rep1 r
      obtain ⟨a, ws, rfl, h, r⟩ := drf_ok g rp e
      exact ⟨a, ws, rfl, by rw [hK]; exact h, fun q hq => k q ws hq r⟩
    · cases e) hg hm (by decide +kernel) ha (by decide) (by decide) he rfl
/-- all, any of a list of truths -/
def toBs : List PV → Option (List Bool)
  | [] => some []
  | .bl b :: l => (toBs l).map fun bs => b :: bs
  | _ => none
theorem toBs_ok : ∀ {l : List PV} {vs : List V} {bs : List Bool}, RepL G W vs l → toBs l = some bs → vs = bs.map V.bl
  | _, _, _, .nil, e => by cases e; rfl
  | _, _, _, .cons h r, e => by
    cases h <;> first | (cases e; done) | skip
    rename_i b
    simp only [toBs, Option.map_eq_some_iff] at e
    obtain ⟨bs, e1, rfl⟩ := e
    rw [toBs_ok r e1]; rfl
def allF (l : List PV) (st : Store) : Option PV := match l with
  | [p] => (drfL p st).bind fun xs => (toBs xs).map fun bs => .bl (bs.all id)
  | _ => none
def anyF (l : List PV) (st : Store) : Option PV := match l with
  | [p] => (drfL p st).bind fun xs => (toBs xs).map fun bs => .bl (bs.any id)
  | _ => none
theorem r_all (hK : X.K = G.K) (hc : X.calm = true) (hm : X.mg "all" = none) (ha : PA X [e] (tA G wx ms)) (hg : Gl X "all" := by rfl) (he : starEach [e] X.env = (false, eval e X.env) :: starEach [] X.env := by rfl) :
    PE X (.Call (.Name "all" p) [e] [] pos) (tP G wx (cbS allF ms)) := r_cbB (cr_all hc) (fun W st H vs l z Q g r e k => by
    unfold allF at e
    split at e
    · simp only [Option.bind_eq_some_iff, Option.map_eq_some_iff] at e
      obtain ⟨xs, e1, bs, e2, rfl⟩ := e
      obtain ⟨v, rfl, rp⟩ := rep1 r
      obtain ⟨a, ws, rfl, h, r⟩ := drfL_ok g rp e1
      exact ⟨a, bs, rfl, by rw [hK, ← toBs_ok r e2]; exact .of h, k _ (.bl _)⟩
    · cases e) hg hm (by decide +kernel) ha (by decide) (by decide) he rfl
theorem r_any (hK : X.K = G.K) (hc : X.calm = true) (hm : X.mg "any" = none) (ha : PA X [e] (tA G wx ms)) (hg : Gl X "any" := by rfl) (he : starEach [e] X.env = (false, eval e X.env) :: starEach [] X.env := by rfl) :
    PE X (.Call (.Name "any" p) [e] [] pos) (tP G wx (cbS anyF ms)) := r_cbB (cr_any hc) (fun W st H vs l z Q g r e k => by
    unfold anyF at e
    split at e
    · simp only [Option.bind_eq_some_iff, Option.map_eq_some_iff] at e
      obtain ⟨xs, e1, bs, e2, rfl⟩ := e
      obtain ⟨v, rfl, rp⟩ := rep1 r
      obtain ⟨a, ws, rfl, h, r⟩ := drfL_ok g rp e1
      exact ⟨a, bs, rfl, by rw [hK, ← toBs_ok r e2]; exact .of h, k _ (.bl _)⟩
    · cases e) hg hm (by decide +kernel) ha (by decide) (by decide) he rfl
end
end Mi

namespace Mi
open PySem L2
section
variable {G : Glo} {wx : WX} {W W' W1 W2 : Wd} {st st' st1 st2 : Store} {H H' H0 H1 H2 Hs : Hp} {σ : L2.St} {env : Ev}
variable {X : Cx} {a b e o : Expr} {ma mb mo : Ev → M PV} {m : Ev → M SV} {pos p apos : Pos} {es : List Expr} {ms : Ev → M (List PV)}
/-! ### promises -/
def spF (G : Glo) (n : Nat) (f : List PV → M SV) : Sp := fun vs H Q E => vs.length = n ∧ ∃ W st l, Good G W st H ∧ RepL G W vs l ∧
  Post G (fun cls d _ H => E cls d H) [] W st H (fun sv W' st' H' => ∀ v, ResOk G W' st' H' H v sv → Q v H') (f l st)
def callM (n : Nat) (f : List PV → M SV) (ms : Ev → M (List PV)) : Ev → M SV := fun env => bnd (ms env) fun l => if l.length = n then f l else fail
theorem Post.reσ {α : Type} {wx' : WX} {σ' : L2.St} {R : α → Wd → Store → Hp → Prop} {x : Res α} (h : Post G wx σ W st H R x) (k : ∀ cls d H, wx cls d σ H → wx' cls d σ' H) : Post G wx' σ' W st H R x := by
  cases x with
  | ok a st' => exact h
  | ex c l st' => exact fun W' H' cls d s g e => k _ _ _ (h W' H' cls d s g e)
  | no => exact h
theorem ResOk.back {v : V} {sv : SV} (s : ∀ b, H1 b = none → H b = none) (h : ResOk G W2 st2 H2 H1 v sv) : ResOk G W2 st2 H2 H v sv := by
  cases sv with
  | un => exact h
  | t p => exact h
  | own c => obtain ⟨a, e, o⟩ := h; exact ⟨a, e, o.ob, o.fr, o.lv, s a o.nw⟩
theorem sp_of {n : Nat} {f : List PV → M SV} {l : List PV} {vs : List V} {Q : VK} (g : Good G W1 st1 H1) (s : Step W st H W1 st1 H1) (r : RepL G W1 vs l) (hl : l.length = n)
    (q : Post G wx σ W1 st1 H1 (fun sv W' st' H' => ∀ v, ResOk G W' st' H' H v sv → Q v H') (f l st1)) : spF G n f vs H1 Q (WE wx σ) :=
  ⟨by rw [r.len, hl], W1, st1, l, g, r, (q.reσ fun _ _ _ h => h).mono fun sv W' st' H' s' g' h v hv => h v (hv.back s.there)⟩
variable {k n : Nat} {f C : Addr} {fd : FuncData} {ps : List Str} {fm : List PV → M SV} {x mn : Str}
theorem r_call (F : FnOk X.prog X.w X.K X.mg X.base (L2.CX X.prog X.w) k f fd ps (spF G n fm)) (hr : Room k X.A) (hm : X.mg x = some (.ref f)) (hk : PySem.W.keepIn X.K (.ref f) = true) (hb : Binds X.K fd ps []) (tk : Takes X wx) (ha : PA X (e :: es) (tA G wx ms))
    (hg : Gl X x := by rfl) (hdb : (x == ("__debug__" : Str)) = false := by decide) (he : starEach (e :: es) X.env = (false, eval e X.env) :: starEach es X.env := by rfl) (hpl : (backTo pos (starEach es X.env)).any (·.1) = false := by rfl) :
    PE X (.Call (.Name x p) (e :: es) [] pos) (tV G wx (callM n fm ms)) :=
  (pe_callS F hr hg hm hk hb (fun σ => passAt tk σ) ha hdb he hpl).weak fun σ H Q ⟨H0, W, st, env, o, q⟩ => ⟨H0, W, st, env, o, (Post.split q).mono fun l W1 st1 H1 s g q vs r => by
    by_cases hl : l.length = n
    · rw [if_pos hl] at q
      exact sp_of g s r hl q
    · rw [if_neg hl] at q; exact q.elim⟩
theorem r_call0 (F : FnOk X.prog X.w X.K X.mg X.base (L2.CX X.prog X.w) k f fd ps (spF G 0 fm)) (hr : Room k X.A) (hm : X.mg x = some (.ref f)) (hk : PySem.W.keepIn X.K (.ref f) = true) (hb : Binds X.K fd ps []) (tk : Takes X wx)
    (hg : Gl X x := by rfl) (hdb : (x == ("__debug__" : Str)) = false := by decide) :
    PE X (.Call (.Name x p) [] [] pos) (tV G wx (callM 0 fm aNil)) := by
  refine ⟨fun pins s σ H Q I ⟨H0, W, st, env, o, q⟩ => ?_⟩
  refine wpAny_Call_Name_kw (ld_glob I hg hm ?_ hdb)
  refine PySem.W.callWith_K0 I.kIn hk (run_fnS (us := []) F hr hb (passAt tk σ) I .nil ?_)
  have q' : Post G wx σ W st H (fun sv W' st' H' => ∀ v, ResOk G W' st' H' H v sv → Q v H') (fm [] st) := q
  exact sp_of o.g .refl .nil rfl q'

/-! ### instances: fields, methods, making -/
/-- field j of class c is f -/
structure FldOk (G : Glo) (c j : Nat) (f : Str) : Prop where
  at_ : (G.cf c)[j]? = some f
  nd : (G.cf c).Nodup
  na : NoAttr G.K (G.ca c) f
  ln : (G.cf c).length < 1000
def objAt (c : Nat) (p : PV) (st : Store) : Option (List PV) := match p with
  | .obj d l => if d = c then some l else none
  | .ref n => match st[n]? with
    | some (.ins d l) => if d = c then some l else none
    | _ => none
  | _ => none
theorem objAt_ok (g : Good G W st H) {c : Nat} {v : V} {p : PV} {l : List PV} (r : Rep G W v p) (e : objAt c p st = some l) :
    ∃ a dx fs, v = .ref a ∧ H a = some (.ins (G.ca c) dx fs) ∧ fs.map (·.1) = (G.cf c).take l.length ∧ RepL G W (fs.map (·.2)) l := by
  cases r with
  | @obj a dx d fs m h hn r =>
    have e' : (if d = c then some m else none) = some l := e
    by_cases hd : d = c
    · rw [if_pos hd] at e'; cases e'; subst hd; exact ⟨a, dx, fs, rfl, g.at h, hn, r⟩
    · rw [if_neg hd] at e'; cases e'
  | @ref n a h =>
    have e' : (match st[n]? with | some (.ins d l) => if d = c then some l else none | _ => none) = some l := e
    cases e2 : st[n]? with
    | none => rw [e2] at e'; cases e'
    | some cl =>
      rw [e2] at e'
      have z := g.cell n a cl h e2
      cases cl with
      | ins d m =>
        have e3 : (if d = c then some m else none) = some l := e'
        by_cases hd : d = c
        · rw [if_pos hd] at e3; cases e3; subst hd; obtain ⟨_, dx, fs, h1, h2, h3⟩ := z rfl; exact ⟨a, dx, fs, rfl, h1, h2, h3⟩
        · rw [if_neg hd] at e3; cases e3
      | _ => cases e'
  | _ => cases e
theorem lookup_at {fs : List (Str × V)} {ns : List Str} {j : Nat} {f : Str} {v : V} (hn : fs.map (·.1) = ns) (hd : ns.Nodup) (hf : ns[j]? = some f) (hv : (fs.map (·.2))[j]? = some v) : fs.lookup f = some v := by
  subst hn
  induction fs generalizing j with
  | nil => simp at hf
  | cons p r ih =>
    obtain ⟨g, u⟩ := p
    cases j with
    | zero =>
      simp at hf hv
      subst hf; subst hv
      simp [List.lookup]
    | succ j =>
      simp only [List.map_cons, List.getElem?_cons_succ] at hf hv
      rw [List.map_cons, List.nodup_cons] at hd
      have ne : (f == g) = false := by
        rw [beq_eq_false_iff_ne]
        rintro rfl
        exact hd.1 (List.mem_of_getElem? hf)
      simp only [List.lookup, ne]
      exact ih hv hd.2 hf
theorem lookup_none {fs : List (Str × V)} {f : Str} (h : f ∉ fs.map (·.1)) : fs.lookup f = none := by
  induction fs with
  | nil => rfl
  | cons p r ih =>
    obtain ⟨g, u⟩ := p
    rw [List.map_cons, List.mem_cons, not_or] at h
    have ne : (f == g) = false := by rw [beq_eq_false_iff_ne]; exact h.1
    simp only [List.lookup, ne]
    exact ih h.2
def fldF (c j : Nat) (p : PV) (st : Store) : Option PV := (objAt c p st).bind fun l => l[j]?
def op1S (f : PV → Store → Option PV) (ma : Ev → M PV) : Ev → M PV := fun env => bnd (ma env) fun p => sget (f p)
theorem r_fld (hK : X.K = G.K) {c j : Nat} {fn : Str} (hc : Cls G.K (G.ca c)) (hf : FldOk G c j fn) (he : PE X e (tP G wx ma)) (hb : attributeBase e fn X.env (eval e X.env) = eval e X.env := by rfl) : PE X (.Attribute e fn pos) (tP G wx (op1S (fldF c j) ma)) :=
  (pe_fld he hb).weak fun σ H Q ⟨H0, W, st, env, o, q⟩ => ⟨H0, W, st, env, o, (Post.split q).mono fun p W1 st1 H1 s g q v r => by
    obtain ⟨z, e1, k⟩ := sget_post g q
    unfold fldF at e1
    simp only [Option.bind_eq_some_iff] at e1
    obtain ⟨l, e2, e3⟩ := e1
    obtain ⟨a, dx, fs, rfl, h1, h2, h3⟩ := objAt_ok g r e2
    obtain ⟨u, e4, r4⟩ := RepL.get' h3 e3
    have hj : j < l.length := (List.getElem?_eq_some_iff.mp e3).1
    refine ⟨a, _, dx, fs, u, rfl, h1, by rw [hK]; exact hc, by rw [hK]; exact hf.na, lookup_at h2 (hf.nd.sublist (List.take_sublist _ _)) ?_ e4, k u r4⟩
    rw [List.getElem?_take, if_pos hj]
    exact hf.at_⟩
def isObj (c : Nat) (p : PV) (st : Store) : Option PV := (objAt c p st).map fun _ => p
def methM (c n : Nat) (f : List PV → M SV) (mo : Ev → M PV) (ms : Ev → M (List PV)) : Ev → M SV := fun env => bnd (mo env) fun p => bnd (sget (isObj c p)) fun p => bnd (ms env) fun l => if (p :: l).length = n then f (p :: l) else fail
theorem r_meth {c : Nat} {pl : Sem Bool} (hK : X.K = G.K) (ho : PE X o (tP G wx mo)) (hc : Cls G.K (G.ca c)) (hm : Meth G.K (G.ca c) mn f) (hno : mn ∉ G.cf c) (F : FnOk X.prog X.w X.K X.mg X.base (L2.CX X.prog X.w) k f fd ps (spF G n fm)) (hr : Room k X.A) (hb : Binds X.K fd ps []) (tk : Takes X wx) (ha : PA X (e :: es) (tA G wx ms))
    (hst : starEach (e :: es) X.env = (false, eval e X.env) :: starEach es X.env := by rfl) (hpl : (backTo pos (starEach es X.env)).any (·.1) = false := by rfl)
    (ht : eval (.Call (.Attribute o mn apos) (e :: es) [] pos) X.env = (do
      let ov ← eval o X.env
      standAt apos.atName
      let (f, first) ← holding [ov] (getMethod ov mn pl)
      callWith pos f first (backTo pos (starEach (e :: es) X.env)) (backToKw pos (keywordEach [] X.env))) := by rfl) :
    PE X (.Call (.Attribute o mn apos) (e :: es) [] pos) (tV G wx (methM c n fm mo ms)) := by
  refine ⟨fun pins s σ H Q I ⟨H0, W, st, env, o', q⟩ => ?_⟩
  refine PySem.W.methodCall_KW (pl := pl) (thn (ho.run pins s σ H (fun v H1 => ∃ (a dx : Addr) (fs : List (Str × V)), v = .ref a ∧ H1 a = some (.ins (G.ca c) dx fs) ∧ fs.lookup mn = none ∧ ∃ (W1 : Wd) (st1 : Store) (p : PV) (l : List PV), Step W st H W1 st1 H1 ∧ Good G W1 st1 H1 ∧ Rep G W1 v p ∧
      Post G wx σ W1 st1 H1 (fun sv W' st' H' => ∀ v, ResOk G W' st' H' H v sv → Q v H') (bnd (ms env) (fun l => if (p :: l).length = n then fm (p :: l) else fail) st1)) I ⟨H0, W, st, env, o', (Post.split q).mono fun p W1 st1 H1 s g q v r => ?_⟩) fun u s1 ⟨x, H1, I1, rx, a, dx, fs, ex, ea, l, W1, st1, p, l1, hs, hg, hr1, hq⟩ => ?_) ht
  · obtain ⟨z, e1, k⟩ := sget_post g (Post.split q)
    unfold isObj at e1
    simp only [Option.map_eq_some_iff] at e1
    obtain ⟨l, e2, rfl⟩ := e1
    obtain ⟨a, dx, fs, rfl, h1, h2, h3⟩ := objAt_ok g r e2
    exact ⟨a, dx, fs, rfl, h1, lookup_none (by rw [h2]; exact fun z => hno (List.mem_of_mem_take z)), W1, st1, p, l, s, g, r, k⟩
  · subst ex
    obtain rfl : u = Value.ref a := rx
    refine getmeth_ok I1 ea (by rw [hK]; exact hc) (by rw [hK]; exact hm) l ?_
    refine PySem.W.callWith_K (first := [.ref a]) (h₀ := X.base) I.ok.mod.kin (by rw [hK]; exact hm.kp) (thn (ha.run pos pins s1 σ H1 (fun vs H2 => spF G n fm (.ref a :: vs) H2 Q (WE wx σ)) I1 ⟨H0, W1, st1, env, o'.step hs hg, (Post.split hq).mono fun l2 W2 st2 H2 s2 g2 q2 vs r2 => ?_⟩) fun us s2 ⟨vs, H2, I2, r, q2⟩ => ⟨I2.kIn, ?_⟩) hst hpl
    · by_cases hl : (p :: l2).length = n
      · rw [if_pos hl] at q2
        exact sp_of g2 (hs.trans s2) (.cons (hr1.mono s2.le) r2) hl q2
      · rw [if_neg hl] at q2; exact q2.elim
    · exact run_fnS (us := .ref a :: us) (vs := .ref a :: vs) F hr hb (passAt tk σ) I2 (.cons rfl r) q2
theorem r_meth0 {c : Nat} {pl : Sem Bool} (hK : X.K = G.K) (ho : PE X o (tP G wx mo)) (hc : Cls G.K (G.ca c)) (hm : Meth G.K (G.ca c) mn f) (hno : mn ∉ G.cf c) (F : FnOk X.prog X.w X.K X.mg X.base (L2.CX X.prog X.w) k f fd ps (spF G 1 fm)) (hr : Room k X.A) (hb : Binds X.K fd ps []) (tk : Takes X wx)
    (ht : eval (.Call (.Attribute o mn apos) [] [] pos) X.env = (do
      let ov ← eval o X.env
      standAt apos.atName
      let (f, first) ← holding [ov] (getMethod ov mn pl)
      callWith pos f first (backTo pos (starEach [] X.env)) (backToKw pos (keywordEach [] X.env))) := by rfl) :
    PE X (.Call (.Attribute o mn apos) [] [] pos) (tV G wx (methM c 1 fm mo aNil)) := by
  refine ⟨fun pins s σ H Q I ⟨H0, W, st, env, o', q⟩ => ?_⟩
  refine PySem.W.methodCall_KW (pl := pl) (thn (ho.run pins s σ H (fun v H1 => ∃ (a dx : Addr) (fs : List (Str × V)), v = .ref a ∧ H1 a = some (.ins (G.ca c) dx fs) ∧ fs.lookup mn = none ∧ spF G 1 fm [.ref a] H1 Q (WE wx σ)) I ⟨H0, W, st, env, o', (Post.split q).mono fun p W1 st1 H1 s g q v r => ?_⟩) fun u s1 ⟨x, H1, I1, rx, a, dx, fs, ex, ea, l, hq⟩ => ?_) ht
  · obtain ⟨z, e1, k⟩ := sget_post g (Post.split q)
    unfold isObj at e1
    simp only [Option.map_eq_some_iff] at e1
    obtain ⟨l, e2, rfl⟩ := e1
    obtain ⟨a, dx, fs, rfl, h1, h2, h3⟩ := objAt_ok g r e2
    have k' : Post G wx σ W1 st1 H1 (fun sv W' st' H' => ∀ v, ResOk G W' st' H' H v sv → Q v H') (fm [p] st1) := k
    exact ⟨a, dx, fs, rfl, h1, lookup_none (by rw [h2]; exact fun z => hno (List.mem_of_mem_take z)), sp_of g s (.cons r .nil) rfl k'⟩
  · subst ex
    obtain rfl : u = Value.ref a := rx
    refine getmeth_ok I1 ea (by rw [hK]; exact hc) (by rw [hK]; exact hm) l ?_
    exact PySem.W.callWith_K0 (first := [.ref a]) I1.kIn (by rw [hK]; exact hm.kp) (run_fnS (us := [.ref a]) (vs := [.ref a]) F hr hb (passAt tk σ) I1 (.cons rfl .nil) hq)
end
end Mi

namespace Mi
open PySem L2
section
variable {G : Glo} {wx : WX} {W W' W1 W2 : Wd} {st st' st1 st2 : Store} {H H' H0 H1 H2 Hs : Hp} {σ : L2.St} {env : Ev}
variable {X : Cx} {a b e o tg iter : Expr} {ma mb mo : Ev → M PV} {m : Ev → M SV} {pos p apos : Pos} {es : List Expr} {ms : Ev → M (List PV)}
/-! ### slots set -/
theorem EnvOk.setT {i : Nat} {v : V} {p : PV} (o : EnvOk G W st H H0 σ env) (r : Rep G W v p) : EnvOk G W st H H0 (σ.set i (some v)) (env.set i (.t p)) where
  len := by simp [o.len]
  at_ := fun j sv h => by
    by_cases hj : i = j
    · subst hj
      have hi : i < env.length := by
        have := (List.getElem?_eq_some_iff.mp h).1
        simpa using this
      rw [List.getElem?_set_self hi] at h
      cases h
      exact ⟨some v, List.getElem?_set_self (by rw [o.len]; exact hi), v, rfl, r⟩
    · rw [List.getElem?_set_ne hj] at h
      obtain ⟨u, e, q⟩ := o.at_ j sv h
      exact ⟨u, by rw [List.getElem?_set_ne hj]; exact e, q⟩
  dis := fun j k l n a h1 h2 h3 h4 => by
    by_cases hj : i = j
    · subst hj
      by_cases hi : i < env.length
      · rw [List.getElem?_set_self hi] at h1; cases h1
      · rw [List.getElem?_eq_none (by simp; omega)] at h1; cases h1
    · by_cases hk : i = k
      · subst hk
        by_cases hi : i < env.length
        · rw [List.getElem?_set_self hi] at h2; cases h2
        · rw [List.getElem?_eq_none (by simp; omega)] at h2; cases h2
      · rw [List.getElem?_set_ne hj] at h1 h3
        rw [List.getElem?_set_ne hk] at h2 h4
        exact o.dis j k l n a h1 h2 h3 h4
theorem EnvOk.unT {i : Nat} {v : Option V} (o : EnvOk G W st H H0 σ env) : EnvOk G W st H H0 (σ.set i v) (env.set i .un) where
  len := by simp [o.len]
  at_ := fun j sv h => by
    by_cases hj : i = j
    · subst hj
      have hi : i < env.length := by
        have := (List.getElem?_eq_some_iff.mp h).1
        simpa using this
      rw [List.getElem?_set_self hi] at h
      cases h
      exact ⟨v, List.getElem?_set_self (by rw [o.len]; exact hi), trivial⟩
    · rw [List.getElem?_set_ne hj] at h
      obtain ⟨u, e, q⟩ := o.at_ j sv h
      exact ⟨u, by rw [List.getElem?_set_ne hj]; exact e, q⟩
  dis := fun j k l n a h1 h2 h3 h4 => by
    by_cases hj : i = j
    · subst hj
      by_cases hi : i < env.length
      · rw [List.getElem?_set_self hi] at h1; cases h1
      · rw [List.getElem?_eq_none (by simp; omega)] at h1; cases h1
    · by_cases hk : i = k
      · subst hk
        by_cases hi : i < env.length
        · rw [List.getElem?_set_self hi] at h2; cases h2
        · rw [List.getElem?_eq_none (by simp; omega)] at h2; cases h2
      · rw [List.getElem?_set_ne hj] at h1 h3
        rw [List.getElem?_set_ne hk] at h2 h4
        exact o.dis j k l n a h1 h2 h3 h4
/-- a new owned thing at a slot: apart from all that the others own -/
theorem EnvOk.setO {i : Nat} {a : Addr} {c : Cell} (o : EnvOk G W st H H0 σ env) (r : OwnAt G W st H H0 a c) (ap : ∀ (j : Nat) (d : Cell), j ≠ i → env[j]? = some (.own d) → σ[j]? ≠ some (some (.ref a))) :
    EnvOk G W st H H0 (σ.set i (some (.ref a))) (env.set i (.own c)) where
  len := by simp [o.len]
  at_ := fun j sv h => by
    by_cases hj : i = j
    · subst hj
      have hi : i < env.length := by
        have := (List.getElem?_eq_some_iff.mp h).1
        simpa using this
      rw [List.getElem?_set_self hi] at h
      cases h
      exact ⟨some (.ref a), List.getElem?_set_self (by rw [o.len]; exact hi), a, rfl, r⟩
    · rw [List.getElem?_set_ne hj] at h
      obtain ⟨u, e, q⟩ := o.at_ j sv h
      exact ⟨u, by rw [List.getElem?_set_ne hj]; exact e, q⟩
  dis := fun j k l n b h1 h2 h3 h4 => by
    by_cases hj : i = j
    · by_cases hk : i = k
      · omega
      · subst hj
        have hi : i < σ.length := by
          have := (List.getElem?_eq_some_iff.mp h3).1
          simpa using this
        rw [List.getElem?_set_self hi] at h3
        cases h3
        rw [List.getElem?_set_ne hk] at h2 h4
        exact absurd h4 (ap k n (fun z => hk z.symm) h2)
    · by_cases hk : i = k
      · subst hk
        have hi : i < σ.length := by
          have := (List.getElem?_eq_some_iff.mp h4).1
          simpa using this
        rw [List.getElem?_set_self hi] at h4
        cases h4
        rw [List.getElem?_set_ne hj] at h1 h3
        exact absurd h3 (ap j l (fun z => hj z.symm) h1)
      · rw [List.getElem?_set_ne hj] at h1 h3
        rw [List.getElem?_set_ne hk] at h2 h4
        exact o.dis j k l n b h1 h2 h3 h4
/-- what is new at the state is nobody's yet -/
theorem EnvOk.apart {a : Addr} (o : EnvOk G W st H H0 σ env) (h : H a = none) (j : Nat) (d : Cell) (e : env[j]? = some (.own d)) : σ[j]? ≠ some (some (.ref a)) := fun z => by
  obtain ⟨v, e1, b, e2, r⟩ := o.at_ j _ e
  rw [e1] at z
  cases z
  cases e2
  exact r.ob.isSome h

/-! ### targets -/
def tG (G : Glo) (is : List Nat) (f : PV → Ev → Option Ev) : TG := fun v σ H Q => ∃ H0 W st env p env', SOk G H0 W st H σ env ∧ Rep G W v p ∧ f p env = some env' ∧
  ∀ σ' : L2.St, EnvOk G W st H H0 σ' env' → σ'.length = σ.length → (∀ j, j ∉ is → σ'[j]? = σ[j]?) → Q σ' H
def tGs (G : Glo) (is : List Nat) (f : List PV → Ev → Option Ev) : TGs := fun vs σ H Q => ∃ H0 W st env l env', SOk G H0 W st H σ env ∧ RepL G W vs l ∧ f l env = some env' ∧
  ∀ σ' : L2.St, EnvOk G W st H H0 σ' env' → σ'.length = σ.length → (∀ j, j ∉ is → σ'[j]? = σ[j]?) → Q σ' H
theorem _root_.L2.PG.weak {t t' : TG} (h : PG X e t) (w : ∀ v σ H Q, t' v σ H Q → t v σ H Q) : PG X e t' := ⟨fun pins s σ H x u Q I r q => h.run pins s σ H x u Q I r (w x σ H _ q)⟩
theorem _root_.L2.PGs.weak {t t' : TGs} (h : PGs X es t) (w : ∀ v σ H Q, t' v σ H Q → t v σ H Q) : PGs X es t' := ⟨fun pins s σ H x u Q I r q => h.run pins s σ H x u Q I r (w x σ H _ q)⟩
def nmT (i : Nat) : PV → Ev → Option Ev := fun p env => some (env.set i (.t p))
theorem r_nmT {i : Nat} {x : Str} (hN : X.N.Nodup) (hi : X.N[i]? = some x) (hx : Loc X.env.scope x := by first | exact .inl rfl | exact .inr rfl) (hf : X.fn x = true ∨ X.env.scope.names.lookup x = some .local := by first | exact .inl rfl | exact .inr rfl | assumption) :
    PG X (.Name x pos) (tG G [i] (nmT i)) := (pg_name hN hi hx hf).weak fun v σ H Q ⟨H0, W, st, env, p, env', o, r, e, q⟩ => by
  cases e
  exact q _ (o.e.setT r) (by simp) fun j hj => List.getElem?_set_ne (by simp at hj; omega)
def nilT : List PV → Ev → Option Ev := fun l env => match l with
  | [] => some env
  | _ => none
def consT (f : PV → Ev → Option Ev) (g : List PV → Ev → Option Ev) : List PV → Ev → Option Ev := fun l env => match l with
  | p :: r => (f p env).bind (g r)
  | _ => none
def tupT (n : Nat) (g : List PV → Ev → Option Ev) : PV → Ev → Option Ev := fun p env => match p with
  | .tup l => if l.length = n then g l env else none
  | _ => none
theorem r_nilT : PGs X [] (tGs G [] nilT) := pgs_nil.weak fun vs σ H Q ⟨H0, W, st, env, l, env', o, r, e, q⟩ => by
  cases r with
  | nil => cases e; exact ⟨rfl, q σ o.e rfl fun _ _ => rfl⟩
  | cons _ _ => cases e
theorem r_consT {is js : List Nat} {f : PV → Ev → Option Ev} {g : List PV → Ev → Option Ev} (h1 : PG X e (tG G is f)) (h2 : PGs X es (tGs G js g)) (hs : (assignEach (e :: es) X.env).map (·.2) = assign e X.env :: (assignEach es X.env).map (·.2) := by rfl) : PGs X (e :: es) (tGs G (is ++ js) (consT f g)) :=
  (pgs_cons h1 h2 hs).weak fun vs σ H Q ⟨H0, W, st, env, l, env', o, r, e, q⟩ => by
    cases r with
    | nil => cases e
    | @cons v vs p l h r =>
      have e' : (f p env).bind (g l) = some env' := e
      simp only [Option.bind_eq_some_iff] at e'
      obtain ⟨env1, e1, e2⟩ := e'
      refine ⟨v, vs, rfl, H0, W, st, env, p, env1, o, h, e1, fun σ1 o1 l1 k1 => ⟨H0, W, st, env1, l, env', ⟨o.g, o1⟩, r, e2, fun σ2 o2 l2 k2 => q σ2 o2 (l2.trans l1) fun j hj => ?_⟩⟩
      rw [List.mem_append, not_or] at hj
      rw [k2 j hj.2, k1 j hj.1]
theorem r_tupT {is : List Nat} {n k : Nat} {g : List PV → Ev → Option Ev} (hK : X.K = G.K) (hc : X.calm = true) (h : PGs X es (tGs G is g)) (hn : (assignEach es X.env).length = n := by rfl) (hst : (assignEach es X.env).findIdx? (·.1) = none := by rfl) : PG X (.Tuple es k pos) (tG G is (tupT n g)) :=
  (pg_tup hc h hn hst).weak fun v σ H Q ⟨H0, W, st, env, p, env', o, r, e, q⟩ => by
    cases r with
    | @tup a vs l ht rl =>
      have e' : (if l.length = n then g l env else none) = some env' := e
      by_cases hl : l.length = n
      · rw [if_pos hl] at e'
        exact ⟨a, vs, rfl, by rw [hK]; exact SqT.same o.g.sub ht, by rw [rl.len, hl], H0, W, st, env, l, env', o, rl, e', q⟩
      · rw [if_neg hl] at e'; cases e'
    | _ => cases e

/-! ### what is walked -/
structure Itm where
  n : Nat
  item : Nat → Store → Option PV
  fin : Store → Bool
def ItOk (G : Glo) (J : It) (W : Wd) (I : Itm) : Prop := ∀ W2 st2 H2, Wle W W2 → Good G W2 st2 H2 →
  (∀ i p, i < I.n → I.item i st2 = some p → J.go i H2 ∧ ∀ x H3, J.yld i H2 x H3 → ∃ W3, Step W2 st2 H2 W3 st2 H3 ∧ Good G W3 st2 H3 ∧ Rep G W3 x p) ∧ (I.fin st2 = true → J.stop I.n H2)
def tI (G : Glo) (wx : WX) (m : Ev → M Itm) : TI := fun σ H R => ∃ H0 W st env, SOk G H0 W st H σ env ∧
  Post G wx σ W st H (fun I W' st' H' => ∀ J, ItOk G J W' I → R J H') (m env st)
theorem _root_.L2.PI.weak {t t' : TI} (h : PI X tg iter t) (w : ∀ σ H R, t' σ H R → t σ H R) : PI X tg iter t' := ⟨fun pins s σ H R I q => h.run pins s σ H R I (w σ H R q)⟩
/-- the items of a list, a tuple; of a cell: as they stand at the turn -/
def itOf (p : PV) (st : Store) : Option Itm := match p with
  | .lst l => some ⟨l.length, fun i _ => l[i]?, fun _ => true⟩
  | .tup l => some ⟨l.length, fun i _ => l[i]?, fun _ => true⟩
  | .rd l => some ⟨l.length, fun i _ => l[i]?, fun _ => true⟩
  | .ref n => match st[n]? with
    | some (.lst l) => some ⟨l.length, fun i st => (drfL (.ref n) st).bind fun l => l[i]?, fun st => (drfL (.ref n) st).any fun m => decide (m.length ≤ l.length)⟩
    | _ => none
  | _ => none
/-- a list or a tuple, by its value -/
def iSeq (K : PySem.W.Frag) (tl : TE) : TI := fun σ H R => tl σ H fun x H1 => ∃ a, x = .ref a ∧ (((∃ xs, SqL K H1 a xs) ∧ R (Itl K a) H1) ∨ ((∃ xs, SqT K H1 a xs) ∧ R (Itt K a) H1))
theorem pi_seq {l : Expr} {tl : TE} (hl : PE X l tl) : PI X tg l (iSeq X.K tl) := by
  refine ⟨fun pins s σ H R I h => ?_⟩
  refine thn (hl.run pins s σ H _ I h) fun v s1 ⟨x, H1, I1, r1, q1⟩ => ?_
  obtain ⟨a, e, q⟩ := q1
  subst e
  cases r1
  rcases q with ⟨⟨xs, hq⟩, q⟩ | ⟨⟨xs, hq⟩, q⟩
  · obtain ⟨its, rv, p, hz⟩ := I1.list hq
    refine wpAny_pyIter_list p.isList ?_
    refine ⟨s1.heap.objs.size, [s1.heap.objs.size], _, _, H1, rfl, I1.kept (t' := s1.toks) fun b o e => Heap.get?_push_of_some _ e, turn_list a _, ⟨_, Heap.get?_push_size _ rfl, rfl, rfl⟩, fun b hb => ?_, q⟩
    have e : b = s1.heap.objs.size := by simpa using hb
    subst e
    exact I1.fpOk (Nat.le_refl _) (I1.hok.fresh (Nat.le_refl _))
  · obtain ⟨its, rv, p, hz⟩ := I1.tuple hq
    refine wpAny_pyIter_tuple (show s1.heap.IsTuple a its.toArray from p) ?_
    refine ⟨s1.heap.objs.size, [s1.heap.objs.size], _, _, H1, rfl, I1.kept (t' := s1.toks) fun b o e => Heap.get?_push_of_some _ e, turn_tuple a _, ⟨_, Heap.get?_push_size _ rfl, rfl, rfl⟩, fun b hb => ?_, q⟩
    have e : b = s1.heap.objs.size := by simpa using hb
    subst e
    exact I1.fpOk (Nat.le_refl _) (I1.hok.fresh (Nat.le_refl _))
theorem Itl_tree {K : PySem.W.Frag} {a : Addr} {vs : List V} {l : List PV} (hK : K = G.K) (h : ∀ W2 st2 H2, Wle W W2 → Good G W2 st2 H2 → SqL K H2 a vs) (r : RepL G W vs l) : ItOk G (Itl K a) W ⟨l.length, fun i _ => l[i]?, fun _ => true⟩ := by
  intro W2 st2 H2 le g
  have q := h W2 st2 H2 le g
  refine ⟨fun i p hi e => ?_, fun _ => ⟨vs, q, by rw [r.len]; exact Nat.le_refl _⟩⟩
  obtain ⟨v, e1, r1⟩ := RepL.get' r e
  refine ⟨⟨vs, v, q, e1⟩, fun x H3 ⟨e2, e3⟩ => ?_⟩
  subst e2
  have := e3 vs q
  rw [e1] at this
  cases this
  exact ⟨W2, .refl, g, r1.mono le⟩
theorem Itt_tree {K : PySem.W.Frag} {a : Addr} {vs : List V} {l : List PV} (h : ∀ W2 st2 H2, Wle W W2 → Good G W2 st2 H2 → SqT K H2 a vs) (r : RepL G W vs l) : ItOk G (Itt K a) W ⟨l.length, fun i _ => l[i]?, fun _ => true⟩ := by
  intro W2 st2 H2 le g
  have q := h W2 st2 H2 le g
  refine ⟨fun i p hi e => ?_, fun _ => ⟨vs, q, by rw [r.len]; exact Nat.le_refl _⟩⟩
  obtain ⟨v, e1, r1⟩ := RepL.get' r e
  refine ⟨⟨vs, v, q, e1⟩, fun x H3 ⟨e2, e3⟩ => ?_⟩
  subst e2
  have := e3 vs q
  rw [e1] at this
  cases this
  exact ⟨W2, .refl, g, r1.mono le⟩
theorem Itl_ref {K : PySem.W.Frag} {a : Addr} {n N : Nat} (hn : W.ρ[n]? = some a) : ItOk G (Itl K a) W ⟨N, fun i st => (drfL (.ref n) st).bind fun l => l[i]?, fun st => (drfL (.ref n) st).any fun m => decide (m.length ≤ N)⟩ := by
  intro W2 st2 H2 le g
  have rr : Rep G W2 (.ref a) (.ref n) := .ref (le.at hn)
  refine ⟨fun i p hi e => ?_, fun e => ?_⟩
  · simp only [Option.bind_eq_some_iff] at e
    obtain ⟨l, e1, e2⟩ := e
    obtain ⟨a', vs, ea, h, r⟩ := drfL_ok g rr e1
    cases ea
    obtain ⟨v, e3, r3⟩ := RepL.get' r e2
    refine ⟨⟨vs, v, .of h, e3⟩, fun x H3 ⟨e4, e5⟩ => ?_⟩
    subst e4
    have := e5 vs (.of h)
    rw [e3] at this
    cases this
    exact ⟨W2, .refl, g, r3⟩
  · have e : ((drfL (.ref n) st2).any fun m => decide (m.length ≤ N)) = true := e
    cases e1 : drfL (.ref n) st2 with
    | none => rw [e1] at e; simp at e
    | some m =>
      rw [e1] at e
      obtain ⟨a', vs, ea, h, r⟩ := drfL_ok g rr e1
      cases ea
      exact ⟨vs, .of h, by rw [r.len]; simpa using e⟩
def seqI (ma : Ev → M PV) : Ev → M Itm := fun env => bnd (ma env) fun p => sget (itOf p)
theorem r_seqI (hK : X.K = G.K) (h : PE X iter (tP G wx ma)) : PI X tg iter (tI G wx (seqI ma)) :=
  (pi_seq h).weak fun σ H R ⟨H0, W, st, env, o, q⟩ => ⟨H0, W, st, env, o, (Post.split q).mono fun p W1 st1 H1 s g q v r => by
    obtain ⟨I, e, k⟩ := sget_post g q
    cases r with
    | lst h r => cases e; exact ⟨_, rfl, .inl ⟨⟨_, .of (g.at h)⟩, k _ (Itl_tree hK (fun W2 st2 H2 le g2 => .of (g2.at (le.F _ _ h))) r)⟩⟩
    | tup h r => cases e; exact ⟨_, rfl, .inr ⟨⟨_, by rw [hK]; exact SqT.same g.sub h⟩, k _ (Itt_tree (fun W2 st2 H2 le g2 => by rw [hK]; exact SqT.same g2.sub (SqT.same le.F h)) r)⟩⟩
    | rd h r => cases e; exact ⟨_, rfl, .inl ⟨⟨_, by rw [hK]; exact g.sub.seq h⟩, k _ (Itl_tree hK (fun W2 st2 H2 le g2 => by rw [hK]; exact g2.sub.seq (le.F.seq h)) r)⟩⟩
    | @ref n a h =>
      have e' : (match st1[n]? with | some (.lst l) => some (⟨l.length, fun i st => (drfL (.ref n) st).bind fun l => l[i]?, fun st => (drfL (.ref n) st).any fun m => decide (m.length ≤ l.length)⟩ : Itm) | _ => none) = some I := e
      cases e2 : st1[n]? with
      | none => rw [e2] at e'; cases e'
      | some c =>
        rw [e2] at e'
        cases c with
        | lst l =>
          cases e'
          obtain ⟨_, vs, ev, r⟩ := g.cell n a _ h e2 rfl
          exact ⟨a, rfl, .inl ⟨⟨vs, .of ev⟩, k _ (Itl_ref h)⟩⟩
        | _ => cases e'
    | _ => cases e⟩
end
end Mi

namespace Mi
open PySem L2
section
variable {G : Glo} {wx : WX} {W W' W1 W2 : Wd} {st st' st1 st2 : Store} {H H' H0 H1 H2 Hs : Hp} {σ : L2.St} {env : Ev}
variable {X : Cx} {a b c e o tg iter : Expr} {ma mb mo : Ev → M PV} {m : Ev → M SV} {pos p apos tpos : Pos} {es : List Expr} {ms : Ev → M (List PV)}
def rngB (j : Int) : Bool := decide (-(2 ^ 62) ≤ j) && decide (j < 2 ^ 62)
theorem rngB_ok {j : Int} (h : rngB j = true) : -(2 ^ 62) ≤ j ∧ j < 2 ^ 62 := by
  unfold rngB at h
  rw [Bool.and_eq_true] at h
  exact ⟨of_decide_eq_true h.1, of_decide_eq_true h.2⟩
def rngItm (lo : Int) (n : Nat) : Itm := ⟨n, fun i _ => some (.int (lo + i)), fun _ => true⟩
def rng1F (l : List PV) (_ : Store) : Option Itm := match l with
  | [.int j] => if rngB j = true then some (rngItm 0 j.toNat) else none
  | _ => none
def rng2F (l : List PV) (_ : Store) : Option Itm := match l with
  | [.int i, .int j] => if rngB i = true ∧ rngB j = true then some (rngItm i (j - i).toNat) else none
  | _ => none
def cbI (f : List PV → Store → Option Itm) (ms : Ev → M (List PV)) : Ev → M Itm := fun env => bnd (ms env) fun l => sget (f l)
theorem rngOk (lo : Int) (n : Nat) : ItOk G (Itr lo n) W (rngItm lo n) := fun W2 st2 H2 le g => ⟨fun i p hi e => ⟨hi, fun x H3 ⟨e1, e2⟩ => by
  subst e1; subst e2; cases e; exact ⟨W2, .refl, g, .int _⟩⟩, fun _ => Nat.le_refl _⟩
theorem r_rng1 (hm : X.mg "range" = none) (ha : PA X [a] (tA G wx ms)) (hg : Gl X "range" := by rfl) (hs : starEach [a] X.env = [(false, eval a X.env)] := by rfl) : PI X tg (.Call (.Name "range" p) [a] [] pos) (tI G wx (cbI rng1F ms)) :=
  (pi_range1 hg hm ha hs).weak fun σ H R ⟨H0, W, st, env, o, q⟩ => ⟨H0, W, st, env, o, (Post.split q).mono fun l W1 st1 H1 s g q vs r => by
    obtain ⟨I, e, k⟩ := sget_post g q
    unfold rng1F at e
    split at e
    · rename_i j
      by_cases hj : rngB j = true
      · rw [if_pos hj] at e
        cases e
        obtain ⟨v, rfl, rp⟩ := rep1 r
        cases rp
        exact ⟨j, rfl, (rngB_ok hj).1, (rngB_ok hj).2, k _ (rngOk _ _)⟩
      · rw [if_neg hj] at e; cases e
    · cases e⟩
theorem r_rng2 (hm : X.mg "range" = none) (ha : PA X [a, b] (tA G wx ms)) (hg : Gl X "range" := by rfl) (hs : starEach [a, b] X.env = [(false, eval a X.env), (false, eval b X.env)] := by rfl) (hs2 : starEach [b] X.env = [(false, eval b X.env)] := by rfl) :
    PI X tg (.Call (.Name "range" p) [a, b] [] pos) (tI G wx (cbI rng2F ms)) :=
  (pi_range2 hg hm ha hs hs2).weak fun σ H R ⟨H0, W, st, env, o, q⟩ => ⟨H0, W, st, env, o, (Post.split q).mono fun l W1 st1 H1 s g q vs r => by
    obtain ⟨I, e, k⟩ := sget_post g q
    unfold rng2F at e
    split at e
    · rename_i i j
      by_cases hj : rngB i = true ∧ rngB j = true
      · rw [if_pos hj] at e
        cases e
        obtain ⟨v, w, rfl, rp, rq⟩ := rep2 r
        cases rp; cases rq
        exact ⟨i, j, rfl, ⟨(rngB_ok hj.1).1, (rngB_ok hj.1).2, (rngB_ok hj.2).1, (rngB_ok hj.2).2⟩, k _ (rngOk _ _)⟩
      · rw [if_neg hj] at e; cases e
    · cases e⟩
/-- a list, as it is to be read -/
def drfR (p : PV) (st : Store) : Option (List PV) := match p with
  | .lst l => some l
  | .rd l => some l
  | .ref n => match st[n]? with
    | some (.lst l) => some l
    | _ => none
  | _ => none
theorem drfR_ok (g : Good G W st H) {v : V} {p : PV} {l : List PV} (r : Rep G W v p) (e : drfR p st = some l) : ∃ a vs, v = .ref a ∧ SqL G.K H a vs ∧ RepL G W vs l := by
  cases r with
  | lst h r => cases e; exact ⟨_, _, rfl, .of (g.at h), r⟩
  | rd h r => cases e; exact ⟨_, _, rfl, g.sub.seq h, r⟩
  | @ref n a h =>
    obtain ⟨a', vs, h1, h2, h3⟩ := drfL_ok (l := l) g (.ref h) e
    exact ⟨a', vs, h1, .of h2, h3⟩
  | _ => cases e
def zipF (l : List PV) (st : Store) : Option Itm := match l with
  | [p, q] => (drfR p st).bind fun xs => (drfR q st).map fun ys => ⟨min xs.length ys.length, fun i st => (drfR p st).bind fun xs => (drfR q st).bind fun ys => (xs[i]?).bind fun x => (ys[i]?).map fun y => .tup [x, y],
      fun st => ((drfR p st).any fun zs => decide (zs.length ≤ min xs.length ys.length) && (drfR q st).isSome) || ((drfR q st).any fun zs => decide (zs.length ≤ min xs.length ys.length) && (drfR p st).isSome)⟩
  | _ => none
def enumF (l : List PV) (st : Store) : Option Itm := match l with
  | [p] => (drfR p st).map fun xs => ⟨xs.length, fun i st => (drfR p st).bind fun xs => (xs[i]?).map fun x => .tup [.int i, x], fun st => (drfR p st).any fun zs => decide (zs.length ≤ xs.length)⟩
  | _ => none
variable {elts : List Expr} {kk : Nat}
theorem r_zip (hK : X.K = G.K) (hm : X.mg "zip" = none) (ha : PA X [a, b] (tA G wx ms)) (hg : Gl X "zip" := by rfl) (hs : starEach [a, b] X.env = (false, eval a X.env) :: starEach [b] X.env := by rfl) (hpl : (backTo pos (starEach [b] X.env)).any (·.1) = false := by rfl) :
    PI X (.Tuple elts kk tpos) (.Call (.Name "zip" p) [a, b] [] pos) (tI G wx (cbI zipF ms)) :=
  (pi_zip hg hm ha hs hpl).weak fun σ H R ⟨H0, W, st, env, o, q⟩ => ⟨H0, W, st, env, o, (Post.split q).mono fun l W1 st1 H1 s g q vs r => by
    obtain ⟨I, e, k⟩ := sget_post g q
    unfold zipF at e
    clear q
    split at e
    · rename_i p q
      simp only [Option.bind_eq_some_iff, Option.map_eq_some_iff] at e
      obtain ⟨xs, e1, ys, e2, rfl⟩ := e
      obtain ⟨v, w, rfl, rp, rq⟩ := rep2 r
      obtain ⟨a1, vs, rfl, h1, r1⟩ := drfR_ok g rp e1
      obtain ⟨a2, ws, rfl, h2, r2⟩ := drfR_ok g rq e2
      refine ⟨a1, a2, vs, ws, rfl, by rw [hK]; exact h1, by rw [hK]; exact h2, k _ fun W2 st2 H2 le g2 => ⟨fun i z hi ez => ?_, fun ef => ?_⟩⟩
      · simp only [Option.bind_eq_some_iff, Option.map_eq_some_iff] at ez
        obtain ⟨xs', f1, ys', f2, x, f3, y, f4, rfl⟩ := ez
        obtain ⟨a1', vs', ea1, h1', r1'⟩ := drfR_ok g2 (rp.mono le) f1
        obtain ⟨a2', ws', ea2, h2', r2'⟩ := drfR_ok g2 (rq.mono le) f2
        cases ea1; cases ea2
        obtain ⟨v, f5, r5⟩ := RepL.get' r1' f3
        obtain ⟨w, f6, r6⟩ := RepL.get' r2' f4
        rw [hK]
        refine ⟨⟨vs', ws', v, w, h1', h2', f5, f6⟩, fun x' H3 ⟨T, x1, y1, ev, hT, eH, k1, k2⟩ => ?_⟩
        subst ev; subst eH
        have z1 := k1 vs' h1'
        rw [f5] at z1; cases z1
        have z2 := k2 ws' h2'
        rw [f6] at z2; cases z2
        obtain ⟨W3, g3, s3, r3⟩ := g2.newT hT (.cons r5 (.cons r6 .nil))
        exact ⟨W3, s3, g3, r3⟩
      · rw [hK]
        have ef' : (((drfR p st2).any fun zs => decide (zs.length ≤ min xs.length ys.length) && (drfR q st2).isSome) || ((drfR q st2).any fun zs => decide (zs.length ≤ min xs.length ys.length) && (drfR p st2).isSome)) = true := ef
        cases f1 : drfR p st2 with
        | none => rw [f1] at ef'; cases f2 : drfR q st2 <;> rw [f2] at ef' <;> simp at ef'
        | some xs' =>
          cases f2 : drfR q st2 with
          | none => rw [f1, f2] at ef'; simp at ef'
          | some ys' =>
            rw [f1, f2] at ef'
            obtain ⟨a1', vs', ea1, h1', r1'⟩ := drfR_ok g2 (rp.mono le) f1
            obtain ⟨a2', ws', ea2, h2', r2'⟩ := drfR_ok g2 (rq.mono le) f2
            cases ea1; cases ea2
            refine ⟨vs', ws', h1', h2', ?_⟩
            rw [r1'.len, r2'.len]
            show _ ≤ min xs.length ys.length ∨ _ ≤ min xs.length ys.length
            simpa using ef'
    · cases e⟩
theorem r_enum (hK : X.K = G.K) (hm : X.mg "enumerate" = none) (ha : PA X [a] (tA G wx ms)) (hg : Gl X "enumerate" := by rfl) (hs : starEach [a] X.env = [(false, eval a X.env)] := by rfl) :
    PI X (.Tuple elts kk tpos) (.Call (.Name "enumerate" p) [a] [] pos) (tI G wx (cbI enumF ms)) :=
  (pi_enum hg hm ha hs).weak fun σ H R ⟨H0, W, st, env, o, q⟩ => ⟨H0, W, st, env, o, (Post.split q).mono fun l W1 st1 H1 s g q vs r => by
    obtain ⟨I, e, k⟩ := sget_post g q
    unfold enumF at e
    split at e
    · rename_i p
      simp only [Option.map_eq_some_iff] at e
      obtain ⟨xs, e1, rfl⟩ := e
      obtain ⟨v, rfl, rp⟩ := rep1 r
      obtain ⟨a1, vs, rfl, h1, r1⟩ := drfR_ok g rp e1
      refine ⟨a1, vs, rfl, by rw [hK]; exact h1, k _ fun W2 st2 H2 le g2 => ⟨fun i z hi ez => ?_, fun ef => ?_⟩⟩
      · simp only [Option.bind_eq_some_iff, Option.map_eq_some_iff] at ez
        obtain ⟨xs', f1, x, f3, rfl⟩ := ez
        obtain ⟨a1', vs', ea1, h1', r1'⟩ := drfR_ok g2 (rp.mono le) f1
        cases ea1
        obtain ⟨v, f5, r5⟩ := RepL.get' r1' f3
        rw [hK]
        refine ⟨⟨vs', v, h1', f5⟩, fun x' H3 ⟨T, x1, ev, hT, eH, k1⟩ => ?_⟩
        subst ev; subst eH
        have z1 := k1 vs' h1'
        rw [f5] at z1; cases z1
        obtain ⟨W3, g3, s3, r3⟩ := g2.newT hT (.cons (.int _) (.cons r5 .nil))
        exact ⟨W3, s3, g3, r3⟩
      · rw [hK]
        have ef' : ((drfR p st2).any fun zs => decide (zs.length ≤ xs.length)) = true := ef
        cases f1 : drfR p st2 with
        | none => rw [f1] at ef'; simp at ef'
        | some xs' =>
          rw [f1] at ef'
          obtain ⟨a1', vs', ea1, h1', r1'⟩ := drfR_ok g2 (rp.mono le) f1
          cases ea1
          exact ⟨vs', h1', by rw [r1'.len]; simpa using ef'⟩
    · cases e⟩

/-! ### comprehensions -/
def noex (m : M α) : M α := fun st => match m st with
  | .ex _ _ _ => .no
  | r => r
theorem noex_post {α : Type} {R : α → Wd → Store → Hp → Prop} {m : M α} (h : Post G wx σ W st H R (noex m st)) {wx' : WX} {σ' : L2.St} : Post G wx' σ' W st H R (m st) := by
  unfold noex at h
  cases e : m st with
  | ok a st' => rw [e] at h; exact h
  | ex c l st' => rw [e] at h; exact h.elim
  | no => rw [e] at h; exact h
def wipeE (env : Ev) : List Nat → Ev
  | [] => env
  | v :: vs => (wipeE env vs).set v .un
theorem EnvOk.wipe (o : EnvOk G W st H H0 σ env) : ∀ vs, EnvOk G W st H H0 (L2.wipe σ vs) (wipeE env vs)
  | [] => o
  | v :: vs => (EnvOk.wipe o vs).unT
theorem wipe_get (σ : L2.St) : ∀ (vs : List Nat) (j : Nat), (L2.wipe σ vs)[j]? = if j ∈ vs then (if j < σ.length then some none else none) else σ[j]?
  | [], j => by simp [L2.wipe]
  | v :: vs, j => by
    have ih := wipe_get σ vs j
    show ((L2.wipe σ vs).set v none)[j]? = _
    by_cases hj : v = j
    · subst hj
      rw [if_pos (by simp)]
      by_cases hl : v < σ.length
      · rw [List.getElem?_set_self (by rw [L2.wipe_length]; exact hl), if_pos hl]
      · rw [if_neg hl, List.getElem?_eq_none (by rw [List.length_set, L2.wipe_length]; omega)]
    · rw [List.getElem?_set_ne hj, ih]
      have : (j ∈ v :: vs) ↔ (j ∈ vs) := by simp [Ne.symm hj]
      simp only [this]
theorem wipe_same {σ σ' : L2.St} {vs is : List Nat} (hl : σ'.length = σ.length) (hs : ∀ j ∈ is, j ∈ vs) (h : ∀ j, j ∉ is → σ'[j]? = (L2.wipe σ vs)[j]?) : L2.wipe σ' vs = L2.wipe σ vs := by
  apply List.ext_getElem?
  intro j
  rw [wipe_get, wipe_get]
  by_cases hj : j ∈ vs
  · rw [if_pos hj, if_pos hj, hl]
  · rw [if_neg hj, if_neg hj, h j fun z => hj (hs j z), wipe_get, if_neg hj]
def lcLoop (I : Itm) (tgt : PV → Ev → Option Ev) (tt : Ev → M Bool) (te : Ev → M PV) (env : Ev) : Nat → List PV → M (List PV)
  | 0, acc => fun st => if I.fin st = true then .ok acc st else .no
  | k + 1, acc => bnd (sget (I.item (I.n - (k + 1)))) fun p => bnd (lift (tgt p env)) fun env2 => bnd (noex (tt env2)) fun b =>
      if b = true then bnd (noex (te env2)) fun x => if acc.length < sizeLine then lcLoop I tgt tt te env k (acc ++ [x]) else fail else lcLoop I tgt tt te env k acc
def lcM (it : Ev → M Itm) (tgt : PV → Ev → Option Ev) (tt : Ev → M Bool) (te : Ev → M PV) (own : List Nat) : Ev → M SV := fun env => bnd (it env) fun I => bnd (lcLoop I tgt tt te (wipeE env own) I.n []) fun l => ret (.own (.lst l))
def yesT : Ev → M Bool := fun _ => ret true
theorem _root_.L2.PTs.weak {ifs : List Expr} {t t' : TT} (h : PTs X ifs t) (w : ∀ σ H Q, t' σ H Q → t σ H Q) : PTs X ifs t' := ⟨fun pins s σ H Q I q => h.run pins s σ H Q I (w σ H Q q)⟩
abbrev wx0 : WX := fun _ _ _ _ => False
theorem r_yes : PTs X [] (tT G wx yesT) := pts_nil.weak fun σ H Q ⟨H0, W, st, env, o, q⟩ => Post.here (a := true) q o.g
theorem r_one {mA : Ev → M Bool} (h : PT X c (tT G wx mA)) : PTs X [c] (tT G wx mA) := pts_one h
theorem Good.wr (g : Good G W st H) {a : Addr} {o : HO} (hf : W.F a = none) (hl : ¬ LiveAt W st a) : Good G W st (upd H a o) where
  sub := fun b u h => by
    have : b ≠ a := fun z => by subst z; rw [hf] at h; cases h
    rw [upd_ne this]; exact g.sub b u h
  len := g.len
  cell := fun n b c h1 h2 => (g.cell n b c h1 h2).mono (Wle.refl W) (fun l => (live_some g ⟨n, c, h1, h2, l⟩).2) fun l => by
    have : b ≠ a := fun z => by subst z; exact hl ⟨n, c, h1, h2, l⟩
    rw [upd_ne this]
  inj := g.inj
theorem Step.wr {Hs : Hp} (s : Step W1 st1 Hs W st H) {a : Addr} {o : HO} (hn : Hs a = none) : Step W1 st1 Hs W st (upd H a o) where
  le := s.le
  fr := fun b u h1 h2 => by
    have : b ≠ a := fun z => by subst z; rw [hn] at h1; cases h1
    rw [upd_ne this]; exact s.fr b u h1 h2
  there := fun b h => by
    by_cases z : b = a
    · subst z; exact hn
    · rw [upd_ne z] at h; exact s.there b h
  newF := s.newF
  newL := s.newL
theorem rd_lc {it : Ev → M Itm} {tgt : PV → Ev → Option Ev} {tt : Ev → M Bool} {te : Ev → M PV} {own is : List Nat} (hi : ∀ j ∈ is, j ∈ own) :
    ∀ σ H Q, tV G wx (lcM it tgt tt te own) σ H Q → tLc (tI G wx it) (tG G is tgt) (tT G wx0 tt) (tP G wx0 te) own σ H Q := fun σ H Q ⟨H0, W, st, env, o, q⟩ => by
  refine ⟨H0, W, st, env, o, (Post.splitB .refl q).mono fun I W1 st1 H1 s g q J hJ => fun D hD => ?_⟩
  obtain ⟨g1, s1, o1⟩ := g.newL hD (l := []) (vs := []) .nil
  have hHD : H D = none := s.there D hD
  let Rr : SV → Wd → Store → Hp → Prop := fun sv W' st' H' => ∀ v, ResOk G W' st' H' H v sv → Q v H'
  let rest : Nat → List PV → M SV := fun k acc => bnd (lcLoop I tgt tt te (wipeE env own) k acc) (fun l => ret (.own (.lst l)))
  let At : Nat → Hp → Prop := fun k Hc => ∃ Wc stc acc, Step W st H Wc stc Hc ∧ Wle W1 Wc ∧ Good G Wc stc Hc ∧ OwnAt G Wc stc Hc H D (.lst acc) ∧ Post G wx σ W st H Rr (rest k acc stc)
  refine ⟨fun i m Hc => m = I.n - i ∧ i ≤ I.n ∧ At (I.n - i) Hc, ⟨I.n, rfl, Nat.zero_le _, W1, st1, [], s.trans s1, Wle.refl _, g1, o1 H s.there, q⟩, ?_⟩
  rintro i m Hc ⟨rfl, hle, Wc, stc, acc, sc, lc, gc, oc, qc⟩
  obtain ⟨hgo, hstop⟩ := hJ Wc stc Hc lc gc
  have oenv : SOk G H0 Wc stc Hc (L2.wipe σ own) (wipeE env own) := ⟨gc, (o.e.step sc).wipe own⟩
  by_cases hlt : i < I.n
  · obtain ⟨k, hk⟩ : ∃ k, I.n - i = k + 1 := ⟨I.n - i - 1, by omega⟩
    have ei : I.n - (k + 1) = i := by omega
    rw [hk] at qc
    have qc : Post G wx σ W st H Rr (bnd (bnd (sget (I.item (I.n - (k + 1)))) fun p => bnd (lift (tgt p (wipeE env own))) fun env2 => bnd (noex (tt env2)) fun b =>
      if b = true then bnd (noex (te env2)) fun x => if acc.length < sizeLine then lcLoop I tgt tt te (wipeE env own) k (acc ++ [x]) else fail else lcLoop I tgt tt te (wipeE env own) k acc) (fun l => ret (.own (.lst l))) stc) := qc
    rw [bnd_assoc] at qc
    obtain ⟨p, ep, qp⟩ := sget_post gc (Post.splitB sc qc)
    rw [ei] at ep
    obtain ⟨go, yl⟩ := hgo i p hlt ep
    rw [bnd_assoc] at qp
    refine .inr ⟨go, At k, fun H' hA => ⟨k, by omega, by omega, by omega, by rw [show I.n - (i + 1) = k by omega]; exact hA⟩, fun x H' hy => ?_⟩
    obtain ⟨W3, s3, g3, r3⟩ := yl x H' hy
    obtain ⟨env2, e2, qp⟩ := Post.lift (Post.splitB (sc.trans s3) qp) g3
    rw [bnd_assoc] at qp
    refine ⟨H0, W3, stc, wipeE env own, p, env2, oenv.step s3 g3, r3, e2, fun σ2 o2 l2 k2 => ⟨wipe_same (by rw [l2, L2.wipe_length]) hi k2, H0, W3, stc, env2, ⟨g3, o2⟩, (noex_post (Post.splitB (sc.trans s3) qp)).mono fun b W4 st4 H4 s4 g4 q4 => ?_⟩⟩
    have sc4 := (sc.trans s3).trans s4
    cases b with
    | false =>
      have o4 := oc.step (s3.trans s4)
      exact ⟨W4, st4, acc, sc4, (lc.trans s3.le).trans s4.le, g4, o4, q4⟩
    | true =>
      have q4 : Post G wx σ W st H Rr (bnd (bnd (noex (te env2)) fun x => if acc.length < sizeLine then lcLoop I tgt tt te (wipeE env own) k (acc ++ [x]) else fail) (fun l => ret (.own (.lst l))) st4) := q4
      rw [bnd_assoc] at q4
      refine ⟨H0, W4, st4, env2, ⟨g4, o2.step s4⟩, (noex_post (Post.splitB sc4 q4)).mono fun z W5 st5 H5 s5 g5 q5 v rv => ?_⟩
      have o5 := oc.step ((s3.trans s4).trans s5)
      obtain ⟨vs, hv, rvs⟩ := o5.ob
      by_cases hl : acc.length < sizeLine
      · rw [if_pos hl] at q5
        refine ⟨vs, hv, by rw [rvs.len]; exact hl, W5, st5, acc ++ [z], (sc4.trans s5).wr hHD, ((lc.trans s3.le).trans s4.le).trans s5.le, g5.wr o5.fr o5.lv, ⟨⟨vs ++ [v], upd_same, rvs.append (.one rv)⟩, o5.fr, o5.lv, o5.nw⟩, q5⟩
      · rw [if_neg hl] at q5; exact q5.elim
  · have e0 : I.n - i = 0 := by omega
    have ei : i = I.n := by omega
    rw [e0] at qc
    have qc : Post G wx σ W st H Rr (bnd (fun st => if I.fin st = true then .ok acc st else .no) (fun l => ret (.own (.lst l))) stc) := qc
    have q2 : Post G wx σ Wc stc Hc (fun b _ st2 _ => Post G wx σ W st H Rr (ret (.own (.lst b)) st2)) (if I.fin stc = true then Res.ok acc stc else Res.no) := Post.splitB sc qc
    by_cases hf : I.fin stc = true
    · refine .inl ⟨by rw [ei]; exact hstop hf, ?_⟩
      rw [if_pos hf] at q2
      have q3 : Post G wx σ W st H Rr (Res.ok (SV.own (.lst acc)) stc) := q2.here gc
      exact q3 Wc Hc sc gc _ ⟨D, rfl, oc⟩
    · rw [if_neg hf] at q2
      exact q2.elim
theorem r_lc {elt : Expr} {ifs : List Expr} {scope : Scope} {own : List (Str × Nat)} {it : Ev → M Itm} {tgt : PV → Ev → Option Ev} {tt : Ev → M Bool} {te : Ev → M PV} {is : List Nat} (hc : X.calm = true) (hN : X.N.Nodup) (hi : PI X tg iter (tI G wx it)) (ok : BlkOk X.N X.env.scope scope own) (his : ∀ j ∈ is, j ∈ own.map (·.2))
    (hg : ∀ (s : Shared) (H : Hp) (C : Addr) (cl : List (Str × Addr)) (fp : List Addr), PG (X.blk s H scope (compEnvC scope cl C X.env) fp) tg (tG G is tgt)) (ht : ∀ (s : Shared) (H : Hp) (C : Addr) (cl : List (Str × Addr)) (fp : List Addr), PTs (X.blk s H scope (compEnvC scope cl C X.env) fp) ifs (tT G wx0 tt))
    (he : ∀ (s : Shared) (H : Hp) (C : Addr) (cl : List (Str × Addr)) (fp : List Addr), PE (X.blk s H scope (compEnvC scope cl C X.env) fp) elt (tP G wx0 te)) (hs : ∀ x, foldedSetIterable iter X.env x = pure x := by intro _; rfl) :
    PE X (.ListComp elt [⟨tg, iter, ifs, 0⟩] scope pos) (tV G wx (lcM it tgt tt te (own.map (·.2)))) :=
  (pe_lc hc hN hi ok hg ht he hs).weak (rd_lc his)
end
end Mi

namespace Mi
open PySem L2
inductive Rs where
  | nx (env : Ev) (st : Store) | rt (sv : SV) (st : Store) | bk (env : Ev) (st : Store) | ct (env : Ev) (st : Store)
  | ex (c : Nat) (l : List PV) (env : Ev) (st : Store) | no
abbrev SM := Ev → Store → Rs
/-- a fixed earlier state; a world that is surely reached -/
structure Bs where
  W : Wd
  st : Store
  H : Hp
  m : Wd
structure BStep (B : Bs) (W : Wd) (st : Store) (H : Hp) : Prop where
  s : Step B.W B.st B.H W st H
  m : Wle B.m W
theorem BStep.trans {B : Bs} {W W1 : Wd} {st st1 : Store} {H H1 : Hp} (x : BStep B W st H) (y : Step W st H W1 st1 H1) : BStep B W1 st1 H1 := ⟨x.s.trans y, x.m.trans y.le⟩
section
variable {G : Glo} {wx : WX} {W W' W1 W2 : Wd} {st st' st1 st2 : Store} {H H' H0 H1 H2 Hs : Hp} {σ : L2.St} {env : Ev} {D : Ends} {B : Bs}
variable {X : Cx} {a b c e o tg iter : Expr} {ma mb mo : Ev → M PV} {m : Ev → M SV} {pos p apos tpos : Pos} {es : List Expr} {ms : Ev → M (List PV)}
def PostS (G : Glo) (wx : WX) (B : Bs) (D : Ends) : Rs → Prop
  | .nx env st => ∀ W H σ, BStep B W st H → SOk G B.H W st H σ env → D.nx σ H
  | .rt sv st => ∀ W H v, BStep B W st H → Good G W st H → ResOk G W st H B.H v sv → D.rt v H
  | .bk env st => ∀ W H σ, BStep B W st H → SOk G B.H W st H σ env → D.bk σ H
  | .ct env st => ∀ W H σ, BStep B W st H → SOk G B.H W st H σ env → D.ct σ H
  | .ex c l env st => ∀ W H σ cls d, BStep B W st H → SOk G B.H W st H σ env → ExcAt G W c l cls d → wx cls d σ H
  | .no => False
def tS (G : Glo) (wx : WX) (m : SM) : TS := fun D σ H => ∃ B W st env, BStep B W st H ∧ SOk G B.H W st H σ env ∧ PostS G wx B D (m env st)
def exprS {α : Type} (m : Ev → M α) (k : α → SM) : SM := fun env st => match m env st with
  | .ok a st' => k a env st'
  | .ex c l st' => .ex c l env st'
  | .no => .no
theorem PostS.up {r : Rs} (h : PostS G wx B D r) {m : Wd} (hm : Wle B.m m) : PostS G wx ⟨B.W, B.st, B.H, m⟩ D r := by
  cases r with
  | nx env st => exact fun W H σ s o => h W H σ ⟨s.s, hm.trans s.m⟩ o
  | rt sv st => exact fun W H v s o => h W H v ⟨s.s, hm.trans s.m⟩ o
  | bk env st => exact fun W H σ s o => h W H σ ⟨s.s, hm.trans s.m⟩ o
  | ct env st => exact fun W H σ s o => h W H σ ⟨s.s, hm.trans s.m⟩ o
  | ex c l env st => exact fun W H σ cls d s o => h W H σ cls d ⟨s.s, hm.trans s.m⟩ o
  | no => exact h
theorem PostS.split {α : Type} {m : Ev → M α} {k : α → SM} (s : BStep B W st H) (o : SOk G B.H W st H σ env) (h : PostS G wx B D (exprS m k env st)) :
    Post G wx σ W st H (fun a W1 st1 H1 => PostS G wx B D (k a env st1)) (m env st) := by
  unfold exprS at h
  cases e : m env st with
  | ok a st1 => rw [e] at h; exact fun W1 H1 s1 g => h
  | ex c l st1 => rw [e] at h; exact fun W1 H1 cls d s1 g x => h W1 H1 σ cls d (s.trans s1) (o.step s1 g) x
  | no => rw [e] at h; exact h
def nxS : SM := fun env st => .nx env st
def brkS : SM := fun env st => .bk env st
def contS : SM := fun env st => .ct env st
theorem r_pass : PS X (.Pass pos) (tS G wx nxS) := ps_pass.weak fun D σ H ⟨B, W, st, env, s, o, q⟩ => q W H σ s o
theorem r_break : PS X (.Break pos) (tS G wx brkS) := ps_break.weak fun D σ H ⟨B, W, st, env, s, o, q⟩ => q W H σ s o
theorem r_cont : PS X (.Continue pos) (tS G wx contS) := ps_continue.weak fun D σ H ⟨B, W, st, env, s, o, q⟩ => q W H σ s o
theorem r_doc {x j pos pos'} : PS X (.Expr (.Constant (.str x) j pos) pos') (tS G wx nxS) := ps_doc.weak fun D σ H ⟨B, W, st, env, s, o, q⟩ => q W H σ s o
def seqS (m n : SM) : SM := fun env st => match m env st with
  | .nx env' st' => n env' st'
  | r => r
theorem r_snil : PSs X [] (tS G wx nxS) := pss_nil.weak fun D σ H ⟨B, W, st, env, s, o, q⟩ => q W H σ s o
theorem r_sone {x : Stmt} {m : SM} (h : PS X x (tS G wx m)) : PSs X [x] (tS G wx m) := pss_one h
theorem r_scons {x : Stmt} {xs : List Stmt} {m n : SM} (h1 : PS X x (tS G wx m)) (h2 : PSs X xs (tS G wx n)) : PSs X (x :: xs) (tS G wx (seqS m n)) :=
  (pss_cons h1 h2).weak fun D σ H ⟨B, W, st, env, s, o, q⟩ => by
    refine ⟨B, W, st, env, s, o, ?_⟩
    unfold seqS at q
    cases e : m env st with
    | nx env1 st1 => rw [e] at q; exact fun W1 H1 σ1 s1 o1 => ⟨B, W1, st1, env1, s1, o1, q⟩
    | rt sv st1 => rw [e] at q; exact q
    | bk env1 st1 => rw [e] at q; exact q
    | ct env1 st1 => rw [e] at q; exact q
    | ex c l env1 st1 => rw [e] at q; exact q
    | no => rw [e] at q; exact q
/-! ### expressions as statements, return -/
theorem r_expr (he : PE X e (tV G wx m)) (hs : swapsWith e none pos.line X.env = pure false := by rfl) : PS X (.Expr e pos) (tS G wx (exprS m fun _ => nxS)) :=
  (ps_expr he hs).weak fun D σ H ⟨B, W, st, env, s, o, q⟩ => ⟨B.H, W, st, env, o, (PostS.split s o q).mono fun sv W1 st1 H1 s1 g q v r => q W1 H1 σ (s.trans s1) (o.step s1 g)⟩
def retS (m : Ev → M SV) : SM := exprS m fun sv _ st => .rt sv st
theorem r_ret (he : PE X e (tV G wx m)) : PS X (.Return (some e) pos) (tS G wx (retS m)) :=
  (ps_ret he).weak fun D σ H ⟨B, W, st, env, s, o, q⟩ => ⟨B.H, W, st, env, o, (PostS.split s o q).mono fun sv W1 st1 H1 s1 g q v r => q W1 H1 v (s.trans s1) g (r.back s.s.there)⟩
def retN : SM := fun _ st => .rt (.t .non) st
theorem r_retN : PS X (.Return none pos) (tS G wx retN) := ps_retN.weak fun D σ H ⟨B, W, st, env, s, o, q⟩ => q W H .non s o.g .non
/-- return name -/
def retV (i : Nat) : SM := fun env st => match env[i]? with
  | some (.t p) => .rt (.t p) st
  | some (.own c) => .rt (.own c) st
  | _ => .no
theorem r_retV {i : Nat} {x : Str} (hN : X.N[i]? = some x) (hv : Vis X.env.scope x := by first | exact .inl rfl | exact .inr (.inl rfl) | exact .inr (.inr rfl)) (hd : (x == ("__debug__" : Str)) = false := by decide) (hcd : (x == ("__classdict__" : Str)) = false := by decide) : PS X (.Return (some (.Name x p)) pos) (tS G wx (retV i)) :=
  (ps_ret (pe_var hN hv hd hcd)).weak fun D σ H ⟨B, W, st, env, s, o, q⟩ => by
    unfold retV at q
    cases e : env[i]? with
    | none => rw [e] at q; exact q.elim
    | some sv =>
      rw [e] at q
      cases sv with
      | un => exact q.elim
      | t p =>
        obtain ⟨v, e1, x, e2, r⟩ := o.e.at_ i _ e
        exact ⟨x, by rw [e1, e2], q W H x s o.g r⟩
      | own c =>
        obtain ⟨a, e1, r⟩ := o.e.own e
        exact ⟨.ref a, e1, q W H _ s o.g ⟨a, rfl, r⟩⟩
/-! ### assignment -/
/-- a name takes what it is told, owned where it is new -/
def setV (i : Nat) (m : Ev → M SV) : SM := exprS m fun sv env st => match sv with
  | .un => .no
  | sv => .nx (env.set i sv) st
def asgT (m : Ev → M PV) (f : PV → Ev → Option Ev) : SM := exprS m fun p env st => match f p env with
  | some env' => .nx env' st
  | none => .no
theorem r_asgV {i : Nat} {x : Stmt} {te : TE} (h : PS X x (tAsg te (gName i))) (w : ∀ σ H Q, tV G wx m σ H Q → te σ H Q) : PS X x (tS G wx (setV i m)) :=
  h.weak fun D σ H ⟨B, W, st, env, s, o, q⟩ => w σ H _ ⟨B.H, W, st, env, o, (PostS.split s o q).mono fun sv W1 st1 H1 s1 g q v r => by
    have o1 := o.step s1 g
    cases sv with
    | un => exact r.elim
    | t p => exact q W1 H1 _ (s.trans s1) ⟨g, o1.e.setT r⟩
    | own c =>
      obtain ⟨a, rfl, oa⟩ := r
      refine q W1 H1 _ (s.trans s1) ⟨g, o1.e.setO ⟨oa.ob, oa.fr, oa.lv, s.s.there a oa.nw⟩ fun j d hj ej => ?_⟩
      exact o.e.apart oa.nw j d ej⟩
theorem r_setV {i : Nat} {x : Str} (hN : X.N.Nodup) (hi : X.N[i]? = some x) (he : PE X e (tV G wx m)) (hx : Loc X.env.scope x := by first | exact .inl rfl | exact .inr rfl) (hs : swapsWith e (some (.Name x p)) pos.line X.env = pure false := by rfl) (hf : X.fn x = true ∨ X.env.scope.names.lookup x = some .local := by first | exact .inl rfl | exact .inr rfl | assumption) :
    PS X (.Assign [.Name x p] e pos) (tS G wx (setV i m)) := r_asgV (ps_set hN hi hx he hs hf) fun _ _ _ h => h
/-- .. of a comprehension -/
theorem r_setLc {i : Nat} {y : Str} {py spos : Pos} {elt : Expr} {ifs : List Expr} {scope : Scope} {own : List (Str × Nat)} {it : Ev → M Itm} {tgt : PV → Ev → Option Ev} {tt : Ev → M Bool} {te : Ev → M PV} {is : List Nat} (hc : X.calm = true) (hN : X.N.Nodup) (hy : X.N[i]? = some y)
    (hi : PI X tg iter (tI G wx it)) (ok : BlkOk X.N X.env.scope scope own) (his : ∀ j ∈ is, j ∈ own.map (·.2))
    (hg : ∀ (s : Shared) (H : Hp) (C : Addr) (cl : List (Str × Addr)) (fp : List Addr), PG (X.blk s H scope (compEnvC scope cl C X.env) fp) tg (tG G is tgt)) (ht : ∀ (s : Shared) (H : Hp) (C : Addr) (cl : List (Str × Addr)) (fp : List Addr), PTs (X.blk s H scope (compEnvC scope cl C X.env) fp) ifs (tT G wx0 tt))
    (he : ∀ (s : Shared) (H : Hp) (C : Addr) (cl : List (Str × Addr)) (fp : List Addr), PE (X.blk s H scope (compEnvC scope cl C X.env) fp) elt (tP G wx0 te))
    (hyl : X.env.scope.names.lookup y = some .local := by rfl) (hk : X.env.scope.kind = .function := by rfl) (hl : (py.line == pos.line) = true := by rfl) (hw : (scope.names.any fun (n, k) => n == y && (k == .local || k == .cell)) = false := by decide +kernel) (hs : ∀ x, foldedSetIterable iter X.env x = pure x := by intro _; rfl) :
    PS X (.Assign [.Name y py] (.ListComp elt [⟨tg, iter, ifs, 0⟩] scope pos) spos) (tS G wx (setV i (lcM it tgt tt te (own.map (·.2))))) :=
  r_asgV (ps_setLc hc hN hy hyl (sw_true hk hyl hl hw) hi ok hg ht he hs) (rd_lc his)
/-- .. frozen at once -/
theorem r_asgP {i : Nat} {x : Stmt} {te : TE} (h : PS X x (tAsg te (gName i))) (w : ∀ σ H Q, tV G wx m σ H Q → te σ H Q) : PS X x (tS G wx (asgT (pV m) (nmT i))) :=
  h.weak fun D σ H ⟨B, W, st, env, s, o, q⟩ => w σ H _ ⟨B.H, W, st, env, o, by
    unfold asgT exprS pV bnd at q
    cases e : m env st with
    | no => rw [e] at q; exact q
    | ex c l st1 => rw [e] at q; exact fun W1 H1 cls d s1 g x => q W1 H1 σ cls d (s.trans s1) (o.step s1 g) x
    | ok sv st1 =>
      rw [e] at q
      refine fun W1 H1 s1 g v r => ?_
      cases sv with
      | un => exact r.elim
      | t p =>
        have q' : PostS G wx B D (.nx (env.set i (.t p)) st1) := q
        exact q' W1 H1 _ (s.trans s1) ⟨g, (o.step s1 g).e.setT r⟩
      | own l =>
        have q' : PostS G wx B D (.nx (env.set i (.t l.tree)) st1) := q
        obtain ⟨W2, s2, g2, r2⟩ := ResOk.frz r g s1 (p := l.tree) rfl
        exact q' W2 H1 _ (s.trans s2) ⟨g2, (o.step s2 g2).e.setT r2⟩⟩
theorem r_setLcP {i : Nat} {y : Str} {py spos : Pos} {elt : Expr} {ifs : List Expr} {scope : Scope} {own : List (Str × Nat)} {it : Ev → M Itm} {tgt : PV → Ev → Option Ev} {tt : Ev → M Bool} {te : Ev → M PV} {is : List Nat} (hc : X.calm = true) (hN : X.N.Nodup) (hy : X.N[i]? = some y)
    (hi : PI X tg iter (tI G wx it)) (ok : BlkOk X.N X.env.scope scope own) (his : ∀ j ∈ is, j ∈ own.map (·.2))
    (hg : ∀ (s : Shared) (H : Hp) (C : Addr) (cl : List (Str × Addr)) (fp : List Addr), PG (X.blk s H scope (compEnvC scope cl C X.env) fp) tg (tG G is tgt)) (ht : ∀ (s : Shared) (H : Hp) (C : Addr) (cl : List (Str × Addr)) (fp : List Addr), PTs (X.blk s H scope (compEnvC scope cl C X.env) fp) ifs (tT G wx0 tt))
    (he : ∀ (s : Shared) (H : Hp) (C : Addr) (cl : List (Str × Addr)) (fp : List Addr), PE (X.blk s H scope (compEnvC scope cl C X.env) fp) elt (tP G wx0 te))
    (hyl : X.env.scope.names.lookup y = some .local := by rfl) (hk : X.env.scope.kind = .function := by rfl) (hl : (py.line == pos.line) = true := by rfl) (hw : (scope.names.any fun (n, k) => n == y && (k == .local || k == .cell)) = false := by decide +kernel) (hs : ∀ x, foldedSetIterable iter X.env x = pure x := by intro _; rfl) :
    PS X (.Assign [.Name y py] (.ListComp elt [⟨tg, iter, ifs, 0⟩] scope pos) spos) (tS G wx (asgT (pV (lcM it tgt tt te (own.map (·.2)))) (nmT i))) :=
  r_asgP (ps_setLc hc hN hy hyl (sw_true hk hyl hl hw) hi ok hg ht he hs) (rd_lc his)
theorem r_asg {is : List Nat} {f : PV → Ev → Option Ev} (he : PE X e (tP G wx ma)) (hg : PG X tg (tG G is f)) (hs : swapsWithSole [tg] e pos.line X.env = pure false := by rfl) (hw : swappedStores [tg] e X.env = pure none := by rfl)
    (h1 : (assignEach [tg] X.env).map (·.2) = [assign tg X.env] := by rfl) : PS X (.Assign [tg] e pos) (tS G wx (asgT ma f)) :=
  (ps_asg he hg hs hw h1).weak fun D σ H ⟨B, W, st, env, s, o, q⟩ => ⟨B.H, W, st, env, o, (PostS.split s o q).mono fun p W1 st1 H1 s1 g q v r => by
    have o1 := o.step s1 g
    cases e : f p env with
    | none =>
      have q' : PostS G wx B D (match f p env with | some env' => .nx env' st1 | none => .no) := q
      rw [e] at q'; exact q'.elim
    | some env' =>
      have q' : PostS G wx B D (match f p env with | some env' => .nx env' st1 | none => .no) := q
      rw [e] at q'
      exact ⟨B.H, W1, st1, env, p, env', o1, r, e, fun σ' o' _ _ => q' W1 H1 σ' (s.trans s1) ⟨g, o'⟩⟩⟩
def parS (i j : Nat) (ms : Ev → M (List PV)) : SM := exprS ms fun l env st => match l with
  | [p, q] => .nx ((env.set i (.t p)).set j (.t q)) st
  | _ => .no
theorem r_par {i j : Nat} {st0 : Stmt} (h : PS X st0 (tPar i j (tA G wx ms))) : PS X st0 (tS G wx (parS i j ms)) :=
  h.weak fun D σ H ⟨B, W, st, env, s, o, q⟩ => ⟨B.H, W, st, env, o, (PostS.split s o q).mono fun l W1 st1 H1 s1 g q vs r => by
    have o1 := o.step s1 g
    match l, r with
    | [], r => exact q.elim
    | [_], r => exact q.elim
    | [p1, p2], r =>
      obtain ⟨v, w, rfl, r1, r2⟩ := rep2 r
      exact ⟨v, w, rfl, q W1 H1 _ (s.trans s1) ⟨g, (o1.e.setT r1).setT r2⟩⟩
    | _ :: _ :: _ :: _, r => exact q.elim⟩
/-! ### if -/
def ifS (t : Ev → M Bool) (m n : SM) : SM := exprS t fun b => if b = true then m else n
theorem r_if {t : Ev → M Bool} {m n : SM} {xs ys : List Stmt} (hc : PT X c (tT G wx t)) (ha : PSs X xs (tS G wx m)) (hb : PSs X ys (tS G wx n)) : PS X (.If c xs ys pos) (tS G wx (ifS t m n)) :=
  (ps_if hc ha hb).weak fun D σ H ⟨B, W, st, env, s, o, q⟩ => ⟨B.H, W, st, env, o, (PostS.split s o q).mono fun b W1 st1 H1 s1 g q => by
    cases b with
    | true => exact ⟨B, W1, st1, env, s.trans s1, o.step s1 g, q⟩
    | false => exact ⟨B, W1, st1, env, s.trans s1, o.step s1 g, q⟩⟩
/-! ### for -/
def forL (I : Itm) (f : PV → Ev → Option Ev) (body : SM) : Nat → SM
  | 0 => fun env st => if I.fin st = true then .nx env st else .no
  | k + 1 => fun env st => match I.item (I.n - (k + 1)) st with
    | none => .no
    | some p => match f p env with
      | none => .no
      | some env1 => match body env1 st with
        | .nx env2 st2 => forL I f body k env2 st2
        | .ct env2 st2 => forL I f body k env2 st2
        | .bk env2 st2 => .nx env2 st2
        | r => r
def forS (it : Ev → M Itm) (f : PV → Ev → Option Ev) (body : SM) : SM := exprS it fun I => forL I f body I.n
theorem r_for {it : Ev → M Itm} {f : PV → Ev → Option Ev} {is : List Nat} {bm : SM} {body : List Stmt} (hp : PassesOwn (model X.prog X.w) X.A X.env X.xe) (hc : X.calm = true) (hi : PI X tg iter (tI G wx it)) (hg : PG X tg (tG G is f)) (hb : PSs X body (tS G wx bm))
    (hs : ∀ x, foldedSetIterable iter X.env x = pure x := by intro _; rfl) : PS X (.For tg iter body [] pos) (tS G wx (forS it f bm)) :=
  (ps_for hp hc hi hg hb hs).weak fun D σ H ⟨B, W, st, env, s, o, q⟩ => ⟨B.H, W, st, env, o, (PostS.split s o q).mono fun I W1 st1 H1 s1 g q J hJ => by
    let At : Nat → L2.St → Hp → Prop := fun k σ H => ∃ Wc stc envc, BStep B Wc stc H ∧ Wle W1 Wc ∧ SOk G B.H Wc stc H σ envc ∧ PostS G wx B D (forL I f bm k envc stc)
    refine ⟨fun i m σ H => m = I.n - i ∧ i ≤ I.n ∧ At (I.n - i) σ H, ⟨I.n, rfl, Nat.zero_le _, W1, st1, env, s.trans s1, .refl _, o.step s1 g, q⟩, ?_⟩
    rintro i m σc Hc ⟨rfl, hle, Wc, stc, envc, sc, lc, oc, qc⟩
    obtain ⟨hgo, hstop⟩ := hJ Wc stc Hc lc oc.g
    by_cases hlt : i < I.n
    · obtain ⟨k, hk⟩ : ∃ k, I.n - i = k + 1 := ⟨I.n - i - 1, by omega⟩
      have ei : I.n - (k + 1) = i := by omega
      rw [hk] at qc
      unfold forL at qc
      rw [ei] at qc
      cases ep : I.item i stc with
      | none => rw [ep] at qc; exact qc.elim
      | some p =>
        rw [ep] at qc
        obtain ⟨go, yl⟩ := hgo i p hlt ep
        refine .inr ⟨go, At k, fun σ' H' hA => ⟨k, by omega, by omega, by omega, by rw [show I.n - (i + 1) = k by omega]; exact hA⟩, fun x H' hy => ?_⟩
        obtain ⟨W3, s3, g3, r3⟩ := yl x H' hy
        have qc : PostS G wx B D (match f p envc with | none => .no | some env1 => match bm env1 stc with
          | .nx env2 st2 => forL I f bm k env2 st2
          | .ct env2 st2 => forL I f bm k env2 st2
          | .bk env2 st2 => .nx env2 st2
          | r => r) := qc
        cases e2 : f p envc with
        | none => rw [e2] at qc; exact qc.elim
        | some env1 =>
          rw [e2] at qc
          refine ⟨B.H, W3, stc, envc, p, env1, oc.step s3 g3, r3, e2, fun σ1 o1 _ _ => ⟨⟨B.W, B.st, B.H, W3⟩, W3, stc, env1, ⟨(sc.trans s3).s, .refl _⟩, ⟨g3, o1⟩, ?_⟩⟩
          have qc : PostS G wx B D (match bm env1 stc with
            | .nx env2 st2 => forL I f bm k env2 st2
            | .ct env2 st2 => forL I f bm k env2 st2
            | .bk env2 st2 => .nx env2 st2
            | r => r) := qc
          have lm : Wle B.m W3 := (sc.trans s3).m
          have l13 : Wle W1 W3 := lc.trans s3.le
          cases e3 : bm env1 stc with
          | nx env2 st2 => rw [e3] at qc; exact fun W4 H4 σ4 s4 o4 => ⟨W4, st2, env2, ⟨s4.s, lm.trans s4.m⟩, l13.trans s4.m, o4, qc⟩
          | ct env2 st2 => rw [e3] at qc; exact fun W4 H4 σ4 s4 o4 => ⟨W4, st2, env2, ⟨s4.s, lm.trans s4.m⟩, l13.trans s4.m, o4, qc⟩
          | bk env2 st2 => rw [e3] at qc; exact fun W4 H4 σ4 s4 o4 => qc W4 H4 σ4 ⟨s4.s, lm.trans s4.m⟩ o4
          | rt sv st2 => rw [e3] at qc; exact PostS.up qc lm
          | ex c l env2 st2 => rw [e3] at qc; exact PostS.up qc lm
          | no => rw [e3] at qc; exact qc
    · have e0 : I.n - i = 0 := by omega
      have ei : i = I.n := by omega
      rw [e0] at qc
      have qc : PostS G wx B D (if I.fin stc = true then .nx envc stc else .no) := qc
      by_cases hf : I.fin stc = true
      · rw [if_pos hf] at qc
        exact .inl ⟨by rw [ei]; exact hstop hf, qc Wc Hc σc sc oc⟩
      · rw [if_neg hf] at qc; exact qc.elim⟩
end
end Mi

namespace Mi
open PySem L2
section
variable {G : Glo} {wx : WX} {W W' W1 W2 : Wd} {st st' st1 st2 : Store} {H H' H0 H1 H2 Hs : Hp} {σ : L2.St} {env : Ev} {D : Ends} {B : Bs}
variable {X : Cx} {a b c e o tg iter : Expr} {ma mb mo mi me : Ev → M PV} {m : Ev → M SV} {pos p apos tpos cpos : Pos} {es : List Expr} {ms : Ev → M (List PV)}
/-! ### while -/
def whileF (c : Ev → M Bool) (b : SM) : Nat → SM
  | 0 => fun _ _ => .no
  | k + 1 => fun env st => match c env st with
    | .ok true st1 => match b env st1 with
      | .nx env2 st2 => whileF c b k env2 st2
      | .ct env2 st2 => whileF c b k env2 st2
      | .bk env2 st2 => .nx env2 st2
      | r => r
    | .ok false st1 => .nx env st1
    | .ex d l st1 => .ex d l env st1
    | .no => .no
open Classical in
noncomputable def whileS (c : Ev → M Bool) (b : SM) : SM := fun env st => if h : ∃ k, whileF c b k env st ≠ .no then whileF c b (choose h) env st else .no
theorem whileF_mono {c : Ev → M Bool} {b : SM} : ∀ {k j : Nat} {env : Ev} {st : Store}, k ≤ j → whileF c b k env st ≠ .no → whileF c b j env st = whileF c b k env st
  | 0, _, _, _, _, h => absurd rfl h
  | k + 1, 0, _, _, hj, _ => absurd hj (by omega)
  | k + 1, j + 1, env, st, hj, h => by
    unfold whileF at h ⊢
    cases ec : c env st with
    | ok t st1 =>
      cases t with
      | true =>
        rw [ec] at h
        dsimp only at h ⊢
        cases eb : b env st1 with
        | nx env2 st2 => rw [eb] at h; exact whileF_mono (by omega) h
        | ct env2 st2 => rw [eb] at h; exact whileF_mono (by omega) h
        | _ => rfl
      | false => rfl
    | ex d l st1 => rfl
    | no => rfl
theorem whileS_eq {c : Ev → M Bool} {b : SM} {k : Nat} {env : Ev} {st : Store} {r : Rs} (h : whileF c b k env st = r) (hr : r ≠ .no) : whileS c b env st = r := by
  subst h
  have ex : ∃ k, whileF c b k env st ≠ .no := ⟨k, hr⟩
  unfold whileS
  rw [dif_pos ex]
  have hc := Classical.choose_spec ex
  rcases Nat.le_total k (Classical.choose ex) with z | z
  · exact whileF_mono z hr
  · exact (whileF_mono z hc).symm
theorem r_while {cm : Ev → M Bool} {bm : SM} {body : List Stmt} (hp : PassesOwn (model X.prog X.w) X.A X.env X.xe) (hc : PT X c (tT G wx cm)) (hb : PSs X body (tS G wx bm)) : PS X (.While c body [] pos) (tS G wx (whileS cm bm)) :=
  (ps_while hp hc hb).weak fun D σ H ⟨B, W, st, env, s, o, q⟩ => by
    obtain ⟨k, q⟩ : ∃ k, PostS G wx B D (whileF cm bm k env st) := by
      unfold whileS at q
      split at q
      · exact ⟨_, q⟩
      · exact q.elim
    refine ⟨fun m σ H => ∃ Wc stc envc, BStep B Wc stc H ∧ SOk G B.H Wc stc H σ envc ∧ PostS G wx B D (whileF cm bm m envc stc), ⟨k, W, st, env, s, o, q⟩, ?_⟩
    rintro m σc Hc ⟨Wc, stc, envc, sc, oc, qc⟩
    cases m with
    | zero => exact qc.elim
    | succ k =>
      have qc : PostS G wx B D (exprS cm (fun t env st1 => if t = true then (match bm env st1 with
        | .nx env2 st2 => whileF cm bm k env2 st2
        | .ct env2 st2 => whileF cm bm k env2 st2
        | .bk env2 st2 => .nx env2 st2
        | r => r) else .nx env st1) envc stc) := by
        unfold whileF at qc
        unfold exprS
        cases ec : cm envc stc with
        | ok t st1 =>
          rw [ec] at qc
          cases t with
          | true => exact qc
          | false => exact qc
        | ex d l st1 => rw [ec] at qc; exact qc
        | no => rw [ec] at qc; exact qc
      refine ⟨B.H, Wc, stc, envc, oc, (PostS.split sc oc qc).mono fun t W1 st1 H1 s1 g1 q1 => ?_⟩
      cases t with
      | false => exact q1 W1 H1 σc (sc.trans s1) (oc.step s1 g1)
      | true =>
        have q1 : PostS G wx B D (match bm envc st1 with
          | .nx env2 st2 => whileF cm bm k env2 st2
          | .ct env2 st2 => whileF cm bm k env2 st2
          | .bk env2 st2 => .nx env2 st2
          | r => r) := q1
        show ∃ N : L2.St → Hp → Prop, _
        refine ⟨fun σ' H' => ∃ Wc stc envc, BStep B Wc stc H' ∧ SOk G B.H Wc stc H' σ' envc ∧ PostS G wx B D (whileF cm bm k envc stc), fun σ' H' h => ⟨k, Nat.lt_succ_self k, h⟩, B, W1, st1, envc, sc.trans s1, oc.step s1 g1, ?_⟩
        cases eb : bm envc st1 with
        | nx env2 st2 => rw [eb] at q1; exact fun W4 H4 σ4 s4 o4 => ⟨W4, st2, env2, s4, o4, q1⟩
        | ct env2 st2 => rw [eb] at q1; exact fun W4 H4 σ4 s4 o4 => ⟨W4, st2, env2, s4, o4, q1⟩
        | bk env2 st2 => rw [eb] at q1; exact q1
        | rt sv st2 => rw [eb] at q1; exact q1
        | ex d l env2 st2 => rw [eb] at q1; exact q1
        | no => rw [eb] at q1; exact q1

/-! ### an owned thing is written -/
theorem EnvOk.wrO {i : Nat} {a : Addr} {c c' : Cell} {u : HO} (o : EnvOk G W st H H0 σ env) (e : env[i]? = some (.own c)) (ea : σ[i]? = some (some (.ref a))) (hn : CellHp G W (upd H a u) a c') (oa : OwnAt G W st H H0 a c) :
    EnvOk G W st (upd H a u) H0 σ (env.set i (.own c')) where
  len := by simp [o.len]
  at_ := fun j sv h => by
    by_cases hj : i = j
    · subst hj
      have hi : i < env.length := (List.getElem?_eq_some_iff.mp e).1
      rw [List.getElem?_set_self hi] at h
      cases h
      exact ⟨_, ea, a, rfl, hn, oa.fr, oa.lv, oa.nw⟩
    · rw [List.getElem?_set_ne hj] at h
      obtain ⟨v, e1, q⟩ := o.at_ j sv h
      refine ⟨v, e1, ?_⟩
      cases sv with
      | un => trivial
      | t p => exact q
      | own d =>
        obtain ⟨b, e2, ob⟩ := q
        have ne : b ≠ a := fun z => hj (o.dis i j c d a e h ea (by rw [e1, e2, z]))
        exact ⟨b, e2, CellHp.mono (Wle.refl W) (upd_ne ne) ob.ob, ob.fr, ob.lv, ob.nw⟩
  dis := fun j k l n b h1 h2 h3 h4 => by
    have key : ∀ (j : Nat) (l : Cell), (env.set i (.own c'))[j]? = some (.own l) → ∃ l', env[j]? = some (.own l') := fun j l h => by
      by_cases hj : i = j
      · subst hj; exact ⟨c, e⟩
      · rw [List.getElem?_set_ne hj] at h; exact ⟨l, h⟩
    obtain ⟨l', h1⟩ := key j l h1
    obtain ⟨n', h2⟩ := key k n h2
    exact o.dis j k l' n' b h1 h2 h3 h4
theorem wr_own {i : Nat} {a : Addr} {c c' : Cell} {u : HO} (s : BStep B W st H) (o : SOk G B.H W st H σ env) (e : env[i]? = some (.own c)) (ea : σ[i]? = some (some (.ref a))) (oa : OwnAt G W st H B.H a c) (hn : CellHp G W (upd H a u) a c') :
    BStep B W st (upd H a u) ∧ SOk G B.H W st (upd H a u) σ (env.set i (.own c')) :=
  ⟨⟨s.s.wr oa.nw, s.m⟩, o.g.wr oa.fr oa.lv, o.e.wrO e ea hn oa⟩
/-- .. a cell -/
theorem wr_cell {n : Nat} {a : Addr} {c c' : Cell} {u : HO} (g : Good G W st H) (hn : W.ρ[n]? = some a) (hc : st[n]? = some c) (lc : c.live = true) (lc' : c'.live = true) (h : CellHp G W (upd H a u) a c') :
    Good G W (st.set n c') (upd H a u) ∧ Step W st H W (st.set n c') (upd H a u) := by
  have lv : LiveAt W st a := ⟨n, c, hn, hc, lc⟩
  obtain ⟨h1, h2⟩ := live_some g lv
  have hl : n < st.length := (List.getElem?_eq_some_iff.mp hc).1
  have back : ∀ b, LiveAt W (st.set n c') b → LiveAt W st b := fun b ⟨m, d, e1, e2, e3⟩ => by
    by_cases z : n = m
    · subst z
      rw [hn] at e1; cases e1
      exact lv
    · rw [List.getElem?_set_ne z] at e2; exact ⟨m, d, e1, e2, e3⟩
  refine ⟨⟨fun b o e => ?_, by rw [List.length_set]; exact g.len, fun m b d e1 e2 => ?_, fun m k b d d' e1 e2 e3 e4 l1 l2 => ?_⟩, ⟨Wle.refl W, fun b o e nl => ?_, fun b e => ?_, fun _ h _ _ => h, fun b h => .inl (back b h)⟩⟩
  · have : b ≠ a := fun z => by subst z; rw [h2] at e; cases e
    rw [upd_ne this]; exact g.sub b o e
  · by_cases z : n = m
    · subst z
      rw [hn] at e1; cases e1
      rw [List.getElem?_set_self hl] at e2; cases e2
      exact fun _ => ⟨h2, h⟩
    · rw [List.getElem?_set_ne z] at e2
      intro ld
      have ne : b ≠ a := fun y => by subst y; exact z (g.inj n m b c d hn e1 hc e2 lc ld)
      exact ⟨(g.cell m b d e1 e2 ld).1, CellHp.mono (Wle.refl W) (upd_ne ne) (g.cell m b d e1 e2 ld).2⟩
  · have key : ∀ (m : Nat) (d : Cell), (st.set n c')[m]? = some d → d.live = true → ∃ d', st[m]? = some d' ∧ d'.live = true := fun m d e l => by
      by_cases z : n = m
      · subst z; exact ⟨c, hc, lc⟩
      · rw [List.getElem?_set_ne z] at e; exact ⟨d, e, l⟩
    obtain ⟨d1, f1, g1⟩ := key m d e3 l1
    obtain ⟨d2, f2, g2⟩ := key k d' e4 l2
    exact g.inj m k b d1 d2 e1 e2 f1 f2 g1 g2
  · have : b ≠ a := fun z => nl (by rw [z]; exact lv)
    rw [upd_ne this]; exact e
  · by_cases z : b = a
    · subst z; rw [upd_same] at e; cases e
    · rw [upd_ne z] at e; exact e

/-! ### x[i] = e -/
def ownS (i : Nat) (f : List PV → SM) : SM := fun env st => match env[i]? with
  | some (.own (.lst l)) => f l env st
  | _ => .no
theorem ownS_post {i : Nat} {f : List PV → SM} (h : PostS G wx B D (ownS i f env st)) : ∃ l, env[i]? = some (.own (.lst l)) ∧ PostS G wx B D (f l env st) := by
  unfold ownS at h
  cases e : env[i]? with
  | none => rw [e] at h; exact h.elim
  | some sv =>
    rw [e] at h
    cases sv with
    | own c =>
      cases c with
      | lst l => exact ⟨l, rfl, h⟩
      | _ => exact h.elim
    | _ => exact h.elim
def setIxV (i : Nat) (me mi : Ev → M PV) : SM := exprS me fun p => ownS i fun l => exprS mi fun q env st => match q with
  | .int k => match ixN l.length k with
    | some j => .nx (env.set i (.own (.lst (l.set j p)))) st
    | none => .no
  | _ => .no
theorem r_setIxV {i : Nat} {x : Str} {p' : Pos} (he : PE X e (tP G wx me)) (hsub : PG X (.Subscript (.Name x p') b tpos) (gSub (tVar i) (tP G wx mi) rSetL)) (hs : swapsWithSole [.Subscript (.Name x p') b tpos] e pos.line X.env = pure false := by rfl) (hw : swappedStores [.Subscript (.Name x p') b tpos] e X.env = pure none := by rfl)
    (h1 : (assignEach [.Subscript (.Name x p') b tpos] X.env).map (·.2) = [assign (.Subscript (.Name x p') b tpos) X.env] := by rfl) : PS X (.Assign [.Subscript (.Name x p') b tpos] e pos) (tS G wx (setIxV i me mi)) :=
  (ps_asg he hsub hs hw h1).weak fun D σ H ⟨B, W, st, env, s, o, q⟩ => ⟨B.H, W, st, env, o, (PostS.split s o q).mono fun p W1 st1 H1 s1 g1 q1 v rv => by
    obtain ⟨l, el, q1⟩ := ownS_post q1
    have o1 := o.step s1 g1
    obtain ⟨a, ea, oa⟩ := o1.e.own el
    refine ⟨_, ea, B.H, W1, st1, env, o1, (PostS.split (s.trans s1) o1 q1).mono fun k W2 st2 H2 s2 g2 q2 u ru => ?_⟩
    cases ru <;> first | (exact q2.elim) | skip
    rename_i k
    have q2 : PostS G wx B D (match ixN l.length k with | some j => .nx (env.set i (.own (.lst (l.set j p)))) st2 | none => .no) := q2
    cases ej : ixN l.length k with
    | none => rw [ej] at q2; exact q2.elim
    | some j =>
      rw [ej] at q2
      have o2 := o1.step s2 g2
      have oa2 := oa.step s2
      obtain ⟨vs, hv, rvs⟩ := oa2.ob
      refine ⟨a, vs, k, j, rfl, rfl, hv, by rw [rvs.len]; exact ej, ?_⟩
      obtain ⟨s3, o3⟩ := wr_own (u := .lst (vs.set j v)) (c' := .lst (l.set j p)) ((s.trans s1).trans s2) o2 el ea oa2 ⟨_, upd_same, rvs.set j (rv.mono s2.le)⟩
      exact q2 W2 _ σ s3 o3⟩
def setCell (n : Nat) (f : List PV → Option (List PV)) : SM := fun env st => match st[n]? with
  | some (.lst l) => match f l with
    | some l' => .nx env (st.set n (.lst l'))
    | none => .no
  | _ => .no
theorem setCell_post {n : Nat} {f : List PV → Option (List PV)} (h : PostS G wx B D (setCell n f env st)) : ∃ l l', st[n]? = some (.lst l) ∧ f l = some l' ∧ PostS G wx B D (.nx env (st.set n (.lst l'))) := by
  unfold setCell at h
  cases e : st[n]? with
  | none => rw [e] at h; exact h.elim
  | some c =>
    rw [e] at h
    cases c with
    | lst l =>
      have h : PostS G wx B D (match f l with | some l' => .nx env (st.set n (.lst l')) | none => .no) := h
      cases e2 : f l with
      | none => rw [e2] at h; exact h.elim
      | some l' => rw [e2] at h; exact ⟨l, l', rfl, e2, h⟩
    | _ => exact h.elim
def refS (p : PV) (f : Nat → SM) : SM := match p with
  | .ref n => f n
  | _ => fun _ _ => .no
def setIxR (me mo mi : Ev → M PV) : SM := exprS me fun p => exprS mo fun h => refS h fun n => exprS mi fun q => match q with
  | .int k => setCell n fun l => (ixN l.length k).map fun j => l.set j p
  | _ => fun _ _ => .no
theorem r_setIxR (he : PE X e (tP G wx me)) (hsub : PG X (.Subscript o b tpos) (gSub (tP G wx mo) (tP G wx mi) rSetL)) (hs : swapsWithSole [.Subscript o b tpos] e pos.line X.env = pure false := by rfl) (hw : swappedStores [.Subscript o b tpos] e X.env = pure none := by rfl)
    (h1 : (assignEach [.Subscript o b tpos] X.env).map (·.2) = [assign (.Subscript o b tpos) X.env] := by rfl) : PS X (.Assign [.Subscript o b tpos] e pos) (tS G wx (setIxR me mo mi)) :=
  (ps_asg he hsub hs hw h1).weak fun D σ H ⟨B, W, st, env, s, o, q⟩ => ⟨B.H, W, st, env, o, (PostS.split s o q).mono fun p W1 st1 H1 s1 g1 q1 v rv => by
    have o1 := o.step s1 g1
    have t1 := s.trans s1
    refine ⟨B.H, W1, st1, env, o1, (PostS.split t1 o1 q1).mono fun h W2 st2 H2 s2 g2 q2 u ru => ?_⟩
    cases ru <;> first | (exact q2.elim) | skip
    rename_i n ad hn
    have o2 := o1.step s2 g2
    have t2 := t1.trans s2
    refine ⟨B.H, W2, st2, env, o2, (PostS.split t2 o2 q2).mono fun k W3 st3 H3 s3 g3 q3 w rw' => ?_⟩
    cases rw' <;> first | (exact q3.elim) | skip
    rename_i k
    obtain ⟨l, l', el, ef, q4⟩ := setCell_post q3
    simp only [Option.map_eq_some_iff] at ef
    obtain ⟨j, ej, rfl⟩ := ef
    have hn3 := s3.le.at hn
    obtain ⟨_, vs, hv, rvs⟩ := g3.cell n ad _ hn3 el rfl
    refine ⟨ad, vs, k, j, rfl, rfl, hv, by rw [rvs.len]; exact ej, ?_⟩
    obtain ⟨g5, s5⟩ := wr_cell (u := .lst (vs.set j v)) (c' := .lst (l.set j p)) g3 hn3 el rfl rfl ⟨_, upd_same, rvs.set j ((rv.mono s2.le).mono s3.le)⟩
    exact q4 W3 _ σ ((t2.trans s3).trans s5) ((o2.step s3 g3).step s5 g5)⟩

/-! ### append, extend -/
def refL (p : PV) (f : Nat → SM) : SM := match p with
  | .ref n => fun env st => match st[n]? with
    | some (.lst _) => f n env st
    | _ => .no
  | _ => fun _ _ => .no
theorem refL_post {p : PV} {f : Nat → SM} (h : PostS G wx B D (refL p f env st)) : ∃ n l, p = .ref n ∧ st[n]? = some (.lst l) ∧ PostS G wx B D (f n env st) := by
  cases p with
  | ref n =>
    have h : PostS G wx B D (match st[n]? with | some (.lst _) => f n env st | _ => .no) := h
    cases e : st[n]? with
    | none => rw [e] at h; exact h.elim
    | some c =>
      rw [e] at h
      cases c with
      | lst l => exact ⟨n, l, rfl, e, h⟩
      | _ => exact h.elim
  | _ => exact h.elim
def appV (i : Nat) (ms : Ev → M (List PV)) : SM := ownS i fun l => exprS ms fun ps env st => match ps with
  | [p] => if l.length < sizeLine then .nx (env.set i (.own (.lst (l ++ [p])))) st else .no
  | _ => .no
def appR (mo : Ev → M PV) (ms : Ev → M (List PV)) : SM := exprS mo fun h => refL h fun n => exprS ms fun ps => match ps with
  | [p] => setCell n fun l => if l.length < sizeLine then some (l ++ [p]) else none
  | _ => fun _ _ => .no
def extV (i : Nat) (ms : Ev → M (List PV)) : SM := ownS i fun l => exprS ms fun ps env st => match ps with
  | [p] => match drfL p st with
    | some r => if l.length + r.length ≤ sizeLine then .nx (env.set i (.own (.lst (l ++ r)))) st else .no
    | none => .no
  | _ => .no
variable {es : List Expr} {x : Str} {p' : Pos}
theorem r_appV (hK : X.K = G.K) {i : Nat} (h : PE X (.Call (.Attribute (.Name x p') "append" apos) (e :: es) [] cpos) (tBM X.K "list" rAppend (tVar i) (tA G wx ms)))
    (hs : swapsWith (.Call (.Attribute (.Name x p') "append" apos) (e :: es) [] cpos) none pos.line X.env = pure false := by rfl) : PS X (.Expr (.Call (.Attribute (.Name x p') "append" apos) (e :: es) [] cpos) pos) (tS G wx (appV i ms)) :=
  (ps_expr h hs).weak fun D σ H ⟨B, W, st, env, s, o, q⟩ => by
    obtain ⟨l, el, q1⟩ := ownS_post q
    obtain ⟨a, ea, oa⟩ := o.e.own el
    obtain ⟨vs, hv, rvs⟩ := oa.ob
    refine ⟨_, ea, Or.inl ⟨rfl, vs, .of hv⟩, B.H, W, st, env, o, (PostS.split s o q1).mono fun ps W1 st1 H1 s1 g1 q2 us ru => ?_⟩
    match ps, ru with
    | [], _ => exact q2.elim
    | _ :: _ :: _, _ => exact q2.elim
    | [p], ru =>
      obtain ⟨v, rfl, rv⟩ := rep1 ru
      have q2 : PostS G wx B D (if l.length < sizeLine then .nx (env.set i (.own (.lst (l ++ [p])))) st1 else .no) := q2
      by_cases hl : l.length < sizeLine
      · rw [if_pos hl] at q2
        have oa1 := oa.step s1
        obtain ⟨vs, hv, rvs⟩ := oa1.ob
        refine ⟨a, vs, v, rfl, rfl, hv, by rw [rvs.len]; exact hl, ?_⟩
        obtain ⟨s3, o3⟩ := wr_own (u := .lst (vs ++ [v])) (c' := .lst (l ++ [p])) (s.trans s1) (o.step s1 g1) el ea oa1 ⟨_, upd_same, rvs.append (.one rv)⟩
        exact q2 W1 _ σ s3 o3
      · rw [if_neg hl] at q2; exact q2.elim
theorem r_extV (hK : X.K = G.K) {i : Nat} (h : PE X (.Call (.Attribute (.Name x p') "extend" apos) (e :: es) [] cpos) (tBM X.K "list" rExtend (tVar i) (tA G wx ms)))
    (hs : swapsWith (.Call (.Attribute (.Name x p') "extend" apos) (e :: es) [] cpos) none pos.line X.env = pure false := by rfl) : PS X (.Expr (.Call (.Attribute (.Name x p') "extend" apos) (e :: es) [] cpos) pos) (tS G wx (extV i ms)) :=
  (ps_expr h hs).weak fun D σ H ⟨B, W, st, env, s, o, q⟩ => by
    obtain ⟨l, el, q1⟩ := ownS_post q
    obtain ⟨a, ea, oa⟩ := o.e.own el
    obtain ⟨vs, hv, rvs⟩ := oa.ob
    refine ⟨_, ea, Or.inl ⟨rfl, vs, .of hv⟩, B.H, W, st, env, o, (PostS.split s o q1).mono fun ps W1 st1 H1 s1 g1 q2 us ru => ?_⟩
    match ps, ru with
    | [], _ => exact q2.elim
    | _ :: _ :: _, _ => exact q2.elim
    | [p], ru =>
      obtain ⟨v, rfl, rv⟩ := rep1 ru
      have q2 : PostS G wx B D (match drfL p st1 with
        | some r => if l.length + r.length ≤ sizeLine then .nx (env.set i (.own (.lst (l ++ r)))) st1 else .no
        | none => .no) := q2
      cases er : drfL p st1 with
      | none => rw [er] at q2; exact q2.elim
      | some r =>
        rw [er] at q2
        obtain ⟨b, ws, rfl, hb, rb⟩ := drfL_ok g1 rv er
        have q2 : PostS G wx B D (if l.length + r.length ≤ sizeLine then .nx (env.set i (.own (.lst (l ++ r)))) st1 else .no) := q2
        by_cases hl : l.length + r.length ≤ sizeLine
        · rw [if_pos hl] at q2
          have oa1 := oa.step s1
          obtain ⟨vs, hv, rvs⟩ := oa1.ob
          refine ⟨a, b, vs, ws, rfl, rfl, hv, hb, by rw [rvs.len, rb.len]; exact hl, ?_⟩
          obtain ⟨s3, o3⟩ := wr_own (u := .lst (vs ++ ws)) (c' := .lst (l ++ r)) (s.trans s1) (o.step s1 g1) el ea oa1 ⟨_, upd_same, rvs.append rb⟩
          exact q2 W1 _ σ s3 o3
        · rw [if_neg hl] at q2; exact q2.elim
theorem r_appR (hK : X.K = G.K) (h : PE X (.Call (.Attribute o "append" apos) (e :: es) [] cpos) (tBM X.K "list" rAppend (tP G wx mo) (tA G wx ms)))
    (hs : swapsWith (.Call (.Attribute o "append" apos) (e :: es) [] cpos) none pos.line X.env = pure false := by rfl) : PS X (.Expr (.Call (.Attribute o "append" apos) (e :: es) [] cpos) pos) (tS G wx (appR mo ms)) :=
  (ps_expr h hs).weak fun D σ H ⟨B, W, st, env, s, o, q⟩ => ⟨B.H, W, st, env, o, (PostS.split s o q).mono fun hh W1 st1 H1 s1 g1 q1 u ru => by
    have o1 := o.step s1 g1
    have t1 := s.trans s1
    obtain ⟨n, l, rfl, el, q1⟩ := refL_post q1
    cases ru with
    | @ref _ ad hn =>
      obtain ⟨_, vs, hv, rvs⟩ := g1.cell n ad _ hn el rfl
      refine ⟨Or.inl ⟨rfl, vs, .of hv⟩, B.H, W1, st1, env, o1, (PostS.split t1 o1 q1).mono fun ps W2 st2 H2 s2 g2 q2 us ru => ?_⟩
      match ps, ru with
      | [], _ => exact q2.elim
      | _ :: _ :: _, _ => exact q2.elim
      | [p], ru =>
        obtain ⟨v, rfl, rv⟩ := rep1 ru
        obtain ⟨l, l', el, ef, q4⟩ := setCell_post q2
        by_cases hl : l.length < sizeLine
        · rw [if_pos hl] at ef
          cases ef
          have hn3 := s2.le.at hn
          obtain ⟨_, vs, hv, rvs⟩ := g2.cell n ad _ hn3 el rfl
          refine ⟨ad, vs, v, rfl, rfl, hv, by rw [rvs.len]; exact hl, ?_⟩
          obtain ⟨g5, s5⟩ := wr_cell (u := .lst (vs ++ [v])) (c' := .lst (l ++ [p])) g2 hn3 el rfl rfl ⟨_, upd_same, rvs.append (.one rv)⟩
          exact q4 W2 _ σ ((t1.trans s2).trans s5) ((o1.step s2 g2).step s5 g5)
        · rw [if_neg hl] at ef; cases ef⟩

/-! ### x += e, x[i] += e -/
def augS (i : Nat) (f : Int → Int → Int) (me : Ev → M PV) : SM := fun env st => match env[i]? with
  | some (.t (.int k)) => exprS me (fun q env st => match q with
    | .int j => .nx (env.set i (.t (.int (f k j)))) st
    | _ => .no) env st
  | _ => .no
theorem r_aug {i : Nat} {f : Int → Int → Int} {op : Operator} (ho : PIp X op (ipI f)) (hN : X.N.Nodup) (hi : X.N[i]? = some x) (he : PE X e (tP G wx me)) (hx : Loc X.env.scope x := by first | exact .inl rfl | exact .inr rfl) (hf : X.fn x = true ∨ X.env.scope.names.lookup x = some .local := by first | exact .inl rfl | exact .inr rfl | assumption) :
    PS X (.AugAssign (.Name x p) op e pos) (tS G wx (augS i f me)) :=
  (ps_aug hN hi hx he ho hf).weak fun D σ H ⟨B, W, st, env, s, o, q⟩ => by
    unfold augS at q
    cases e1 : env[i]? with
    | none => rw [e1] at q; exact q.elim
    | some sv =>
      rw [e1] at q
      cases sv with
      | t pp =>
        cases pp with
        | int k =>
          obtain ⟨v, e2, w, e3, r⟩ := o.e.at_ i _ e1
          cases r
          refine ⟨_, by rw [e2, e3], B.H, W, st, env, o, (PostS.split s o q).mono fun j W1 st1 H1 s1 g1 q1 u ru => ?_⟩
          cases ru <;> first | (exact q1.elim) | skip
          exact ⟨_, _, rfl, rfl, q1 W1 H1 _ (s.trans s1) ⟨g1, (o.e.step s1).setT (.int _)⟩⟩
        | _ => exact q.elim
      | _ => exact q.elim
theorem pg_list : PGet X (rIxL X.K) := by
  intro pins s σ H x y v u Q I rx ry h
  obtain ⟨p, xs, i, z, rfl, rfl, hq, he, q⟩ := h
  cases rx
  obtain ⟨t, rfl⟩ := ry
  obtain ⟨its, r, pl, hz⟩ := I.list hq
  obtain ⟨j, h1, h2, h3, h4, h5⟩ := atI_get he
  obtain ⟨w, ew, rw'⟩ := r.get h2
  have hl := r.length
  have hn := line63
  have fin : EP X pins σ Q w s := ⟨z, H, I, rw', q⟩
  by_cases h0 : 0 ≤ i
  · have hj : i.toNat = j := by
      rw [seqIndex_of h0 h5] at h1
      exact Option.some.inj h1
    exact wpAny_getItem_list pl.isList h0 (by omega) (by rw [hj]; simpa using ew) fin
  · have hj : (i + (its.toArray.size : Int)).toNat = j := by
      rw [seqIndex_neg (by omega) h4] at h1
      rw [List.size_toArray, ← hl]
      exact Option.some.inj h1
    exact wpAny_getItem_list_neg pl.isList (by omega) (by rw [List.size_toArray] <;> omega) (by omega) (by rw [hj]; simpa using ew) fin
def augIxR (f : Int → Int → Int) (mo mi me : Ev → M PV) : SM := exprS mo fun h => refL h fun n => exprS mi fun q => match q with
  | .int k => fun env st => match (drfL (.ref n) st).bind fun l => atI l k with
    | some (.int v) => exprS me (fun p => match p with
      | .int j => setCell n fun l => (ixN l.length k).map fun i => l.set i (.int (f v j))
      | _ => fun _ _ => .no) env st
    | _ => .no
  | _ => fun _ _ => .no
theorem r_augIxR (hK : X.K = G.K) {f : Int → Int → Int} {op : Operator} (hop : PIp X op (ipI f)) (ho : PE X o (tP G wx mo)) (hi : PE X b (tP G wx mi)) (he : PE X e (tP G wx me))
    (ha : ∀ ov iv new, augStore b ov iv new = (do holding [new, ov, iv] (setItem ov iv new); release [new, ov, iv] []; pure .next) := by intros; rfl) : PS X (.AugAssign (.Subscript o b tpos) op e pos) (tS G wx (augIxR f mo mi me)) :=
  (ps_augS ho hi pg_list he hop set_list ha).weak fun D σ H ⟨B, W, st, env, s, o, q⟩ => ⟨B.H, W, st, env, o, (PostS.split s o q).mono fun hh W1 st1 H1 s1 g1 q1 u ru => by
    have o1 := o.step s1 g1
    have t1 := s.trans s1
    obtain ⟨n, l, rfl, el, q1⟩ := refL_post q1
    cases ru with
    | @ref _ ad hn =>
      refine ⟨B.H, W1, st1, env, o1, (PostS.split t1 o1 q1).mono fun kk W2 st2 H2 s2 g2 q2 w rw' => ?_⟩
      have o2 := o1.step s2 g2
      have t2 := t1.trans s2
      cases rw' <;> first | (exact q2.elim) | skip
      rename_i k
      have q2 : PostS G wx B D (match (drfL (.ref n) st2).bind fun l => atI l k with
        | some (.int v) => exprS me (fun p => match p with
          | .int j => setCell n fun l => (ixN l.length k).map fun i => l.set i (.int (f v j))
          | _ => fun _ _ => .no) env st2
        | _ => .no) := q2
      cases ev : (drfL (.ref n) st2).bind fun l => atI l k with
      | none => rw [ev] at q2; exact q2.elim
      | some old =>
        rw [ev] at q2
        simp only [Option.bind_eq_some_iff] at ev
        obtain ⟨l2, e4, e5⟩ := ev
        obtain ⟨a', vs, ea, hv, rvs⟩ := drfL_ok g2 (.ref (s2.le.at hn)) e4
        cases ea
        obtain ⟨z, e6, r6⟩ := atI_rep rvs e5
        cases r6 <;> first | (exact q2.elim) | skip
        rename_i v
        refine ⟨ad, vs, k, _, rfl, rfl, by rw [hK]; exact .of hv, e6, B.H, W2, st2, env, o2, (PostS.split t2 o2 q2).mono fun pp W3 st3 H3 s3 g3 q3 y ry => ?_⟩
        cases ry <;> first | (exact q3.elim) | skip
        rename_i j
        refine ⟨v, j, rfl, rfl, ?_⟩
        obtain ⟨l3, l', el3, ef, q4⟩ := setCell_post q3
        simp only [Option.map_eq_some_iff] at ef
        obtain ⟨i, ei, rfl⟩ := ef
        have hn3 := s3.le.at (s2.le.at hn)
        obtain ⟨_, vs3, hv3, rvs3⟩ := g3.cell n ad _ hn3 el3 rfl
        refine ⟨ad, vs3, k, i, rfl, rfl, hv3, by rw [rvs3.len]; exact ei, ?_⟩
        obtain ⟨g5, s5⟩ := wr_cell (u := .lst (vs3.set i (.int (f v j)))) (c' := .lst (l3.set i (.int (f v j)))) g3 hn3 el3 rfl rfl ⟨_, upd_same, rvs3.set i (.int _)⟩
        exact q4 W3 _ σ ((t2.trans s3).trans s5) ((o2.step s3 g3).step s5 g5)⟩

/-! ### an owned list is let go of -/
def fzS (i : Nat) (m : SM) : SM := fun env st => match env[i]? with
  | some (.own c) => m (env.set i (.t c.tree)) st
  | _ => m env st
theorem r_fz {i : Nat} {x : Stmt} {m : SM} (h : PS X x (tS G wx m)) : PS X x (tS G wx (fzS i m)) := h.weak fun D σ H ⟨B, W, st, env, s, o, q⟩ => by
  unfold fzS at q
  cases e : env[i]? with
  | none => rw [e] at q; exact ⟨B, W, st, env, s, o, q⟩
  | some sv =>
    rw [e] at q
    cases sv with
    | un => exact ⟨B, W, st, env, s, o, q⟩
    | t p => exact ⟨B, W, st, env, s, o, q⟩
    | own c =>
      obtain ⟨a, ea, oa⟩ := o.e.own e
      obtain ⟨W1, g1, le, r1, ne⟩ := oa.frz o.g
      refine ⟨B, W1, st, env.set i (.t c.tree), ⟨⟨s.s.le.trans le, s.s.fr, s.s.there, fun b h1 h2 h3 => ?_, fun b h1 => ?_⟩, s.m.trans le⟩, ⟨g1, ?_⟩, q⟩
      · have : b ≠ a := fun z => h2 (by rw [z]; exact oa.nw)
        rw [(ne b this).1]
        exact s.s.newF b h1 h2 h3
      · by_cases z : b = a
        · subst z; exact .inr oa.nw
        · exact s.s.newL b ((ne b z).2.mp h1)
      · refine ⟨by rw [List.length_set]; exact o.e.len, fun j sv h => ?_, fun j k l n b h1 h2 h3 h4 => ?_⟩
        · by_cases hj : i = j
          · subst hj
            have hi : i < env.length := (List.getElem?_eq_some_iff.mp e).1
            rw [List.getElem?_set_self hi] at h
            cases h
            exact ⟨_, ea, _, rfl, r1⟩
          · rw [List.getElem?_set_ne hj] at h
            obtain ⟨v, e1, q1⟩ := o.e.at_ j sv h
            refine ⟨v, e1, ?_⟩
            cases sv with
            | un => trivial
            | t p => obtain ⟨y, e2, r2⟩ := q1; exact ⟨y, e2, r2.mono le⟩
            | own d =>
              obtain ⟨b, e2, ob⟩ := q1
              have nb : b ≠ a := fun z => hj (o.e.dis i j c d a e h ea (by rw [e1, e2, z]))
              exact ⟨b, e2, CellHp.mono le rfl ob.ob, by rw [(ne b nb).1]; exact ob.fr, fun z => ob.lv ((ne b nb).2.mp z), ob.nw⟩
        · have key : ∀ (j : Nat) (l : Cell), (env.set i (.t c.tree))[j]? = some (.own l) → env[j]? = some (.own l) := fun j l h => by
            by_cases hj : i = j
            · subst hj
              have hi : i < env.length := (List.getElem?_eq_some_iff.mp e).1
              rw [List.getElem?_set_self hi] at h
              cases h
            · rw [List.getElem?_set_ne hj] at h; exact h
          exact o.e.dis j k l n b (key j l h1) (key k n h2) h3 h4

/-- an owned thing becomes a cell, behind the statement -/
def cellS (i : Nat) (m : SM) : SM := fun env st => match m env st with
  | .nx env1 st1 => match env1[i]? with
    | some (.own c) => if c.live = true then .nx (env1.set i (.t (.ref st1.length))) (st1 ++ [c]) else .no
    | _ => .no
  | r => r
theorem r_cell {i : Nat} {x : Stmt} {m : SM} (h : PS X x (tS G wx m)) : PS X x (tS G wx (cellS i m)) := h.weak fun D σ H ⟨B, W, st, env, s, o, q⟩ => by
  refine ⟨B, W, st, env, s, o, ?_⟩
  unfold cellS at q
  cases em : m env st with
  | rt sv st1 => rw [em] at q; exact q
  | bk env1 st1 => rw [em] at q; exact q
  | ct env1 st1 => rw [em] at q; exact q
  | ex c l env1 st1 => rw [em] at q; exact q
  | no => rw [em] at q; exact q
  | nx env1 st1 =>
    rw [em] at q
    have q : PostS G wx B D (match env1[i]? with
      | some (.own c) => if c.live = true then .nx (env1.set i (.t (.ref st1.length))) (st1 ++ [c]) else .no
      | _ => .no) := q
    cases e : env1[i]? with
    | none => rw [e] at q; exact q.elim
    | some sv =>
      rw [e] at q
      cases sv with
      | un => exact q.elim
      | t p => exact q.elim
      | own c =>
        have q : PostS G wx B D (if c.live = true then .nx (env1.set i (.t (.ref st1.length))) (st1 ++ [c]) else .no) := q
        by_cases lc : c.live = true
        · rw [if_pos lc] at q
          intro W1 H1 σ1 s1 o1
          obtain ⟨a, ea, oa⟩ := o1.e.own e
          have le : Wle W1 ⟨W1.ρ ++ [a], W1.F⟩ := ⟨⟨[a], rfl⟩, fun _ _ h => h⟩
          have hl : W1.ρ.length = st1.length := o1.g.len
          have at_ : ∀ (n : Nat) (b : Addr) (d : Cell), (W1.ρ ++ [a])[n]? = some b → (st1 ++ [c])[n]? = some d → (W1.ρ[n]? = some b ∧ st1[n]? = some d) ∨ (n = st1.length ∧ b = a ∧ d = c) := fun n b d h1 h2 => by
            by_cases hn : n < st1.length
            · rw [List.getElem?_append_left (by omega)] at h1
              rw [List.getElem?_append_left hn] at h2
              exact .inl ⟨h1, h2⟩
            · have hn2 : n < (st1 ++ [c]).length := (List.getElem?_eq_some_iff.mp h2).1
              have en : n = st1.length := by simp at hn2; omega
              subst en
              rw [List.getElem?_append_right (by omega), Nat.sub_self] at h2
              rw [← hl, List.getElem?_append_right (Nat.le_refl _), Nat.sub_self] at h1
              simp at h1 h2
              exact .inr ⟨rfl, h1.symm, h2.symm⟩
          have lv : ∀ b, LiveAt ⟨W1.ρ ++ [a], W1.F⟩ (st1 ++ [c]) b → LiveAt W1 st1 b ∨ b = a := fun b ⟨n, d, h1, h2, h3⟩ => by
            rcases at_ n b d h1 h2 with ⟨z1, z2⟩ | ⟨_, z, _⟩
            · exact .inl ⟨n, d, z1, z2, h3⟩
            · exact .inr z
          refine q ⟨W1.ρ ++ [a], W1.F⟩ H1 σ1 ⟨⟨s1.s.le.trans le, s1.s.fr, s1.s.there, s1.s.newF, fun b hb => ?_⟩, s1.m.trans le⟩ ⟨⟨o1.g.sub, by simp [hl], fun n b d h1 h2 => ?_, fun n m b d d' h1 h2 h3 h4 l1 l2 => ?_⟩, ?_⟩
          · rcases lv b hb with z | z
            · exact s1.s.newL b z
            · subst z; exact .inr oa.nw
          · rcases at_ n b d h1 h2 with ⟨z1, z2⟩ | ⟨_, rfl, rfl⟩
            · exact (o1.g.cell n b d z1 z2).mono le (fun l => (o1.g.cell n b d z1 z2 l).1) fun _ => rfl
            · exact fun _ => ⟨oa.fr, CellHp.mono le rfl oa.ob⟩
          · rcases at_ n b d h1 h3 with ⟨z1, z2⟩ | ⟨n1, b1, c1⟩
            · rcases at_ m b d' h2 h4 with ⟨y1, y2⟩ | ⟨m1, b2, c2⟩
              · exact o1.g.inj n m b d d' z1 y1 z2 y2 l1 l2
              · subst b2; exact absurd ⟨n, d, z1, z2, l1⟩ oa.lv
            · rcases at_ m b d' h2 h4 with ⟨y1, y2⟩ | ⟨m1, b2, c2⟩
              · subst b1; exact absurd ⟨m, d', y1, y2, l2⟩ oa.lv
              · omega
          · refine ⟨by rw [List.length_set]; exact o1.e.len, fun j sv h => ?_, fun j k l n b h1 h2 h3 h4 => ?_⟩
            · by_cases hj : i = j
              · subst hj
                have hi : i < env1.length := (List.getElem?_eq_some_iff.mp e).1
                rw [List.getElem?_set_self hi] at h
                cases h
                refine ⟨_, ea, _, rfl, .ref ?_⟩
                show (W1.ρ ++ [a])[st1.length]? = some a
                rw [← hl, List.getElem?_append_right (Nat.le_refl _), Nat.sub_self]; rfl
              · rw [List.getElem?_set_ne hj] at h
                obtain ⟨v, e1, q1⟩ := o1.e.at_ j sv h
                refine ⟨v, e1, ?_⟩
                cases sv with
                | un => trivial
                | t p => obtain ⟨y, e2, r2⟩ := q1; exact ⟨y, e2, r2.mono le⟩
                | own d =>
                  obtain ⟨b, e2, ob⟩ := q1
                  have nb : b ≠ a := fun z => hj (o1.e.dis i j c d a e h ea (by rw [e1, e2, z]))
                  exact ⟨b, e2, CellHp.mono le rfl ob.ob, ob.fr, fun z => (lv b z).elim ob.lv nb, ob.nw⟩
            · have key : ∀ (j : Nat) (l : Cell), (env1.set i (.t (.ref st1.length)))[j]? = some (.own l) → env1[j]? = some (.own l) := fun j l h => by
                by_cases hj : i = j
                · subst hj
                  have hi : i < env1.length := (List.getElem?_eq_some_iff.mp e).1
                  rw [List.getElem?_set_self hi] at h
                  cases h
                · rw [List.getElem?_set_ne hj] at h; exact h
              exact o1.e.dis j k l n b (key j l h1) (key k n h2) h3 h4
        · rw [if_neg lc] at q; exact q.elim

/-! ### a def -/
/-- the slots at the entry -/
def envOf (n : Nat) (l : List PV) : Ev := l.map .t ++ List.replicate (n - l.length) .un
def runF (n : Nat) (m : SM) : List PV → M SV := fun l st => match m (envOf n l) st with
  | .nx _ st' => .ok (.t .non) st'
  | .rt sv st' => .ok sv st'
  | .ex c l _ st' => .ex c l st'
  | _ => .no
theorem envOk_start {N : List Str} {vs : List V} {l : List PV} (r : RepL G W vs l) : EnvOk G W st H H (L2.start N vs) (envOf N.length l) where
  len := by unfold L2.start envOf; simp [r.len]
  at_ := fun i sv h => by
    unfold envOf at h
    unfold L2.start
    by_cases hi : i < l.length
    · rw [List.getElem?_append_left (by simpa using hi), List.getElem?_map] at h
      cases e : l[i]? with
      | none => rw [e] at h; cases h
      | some p =>
        rw [e] at h
        cases h
        obtain ⟨v, e1, r1⟩ := r.get' e
        exact ⟨some v, by rw [List.getElem?_append_left (by rw [List.length_map, r.len]; exact hi), List.getElem?_map, e1]; rfl, v, rfl, r1⟩
    · rw [List.getElem?_append_right (by simpa using hi), List.getElem?_replicate] at h
      split at h
      · rename_i hl
        cases h
        refine ⟨none, ?_, trivial⟩
        rw [List.getElem?_append_right (by rw [List.length_map, r.len]; omega), List.getElem?_replicate, if_pos]
        rw [List.length_map, r.len]
        simpa using hl
      · cases h
  dis := fun j k l1 n b h1 h2 h3 h4 => by
    unfold envOf at h1
    by_cases hi : j < l.length
    · rw [List.getElem?_append_left (by simpa using hi), List.getElem?_map] at h1
      cases e : l[j]? with
      | none => rw [e] at h1; cases h1
      | some p => rw [e] at h1; cases h1
    · rw [List.getElem?_append_right (by simpa using hi), List.getElem?_replicate] at h1
      split at h1 <;> cases h1
/-- the body's reading gives the promise -/
theorem rd_body {N : List Str} {n : Nat} {m : SM} {vs : List V} {Q : VK} {E : XK} (h : spF G n (runF N.length m) vs H Q E) : tS G (fun cls d _ H => E cls d H) m { nx := fun _ H' => Q .non H', rt := Q } (L2.start N vs) H := by
  obtain ⟨hl, W, st, l, g, r, q⟩ := h
  refine ⟨⟨W, st, H, W⟩, W, st, envOf N.length l, ⟨.refl, .refl _⟩, ⟨g, envOk_start r⟩, ?_⟩
  unfold runF at q
  cases e : m (envOf N.length l) st with
  | nx env st' => rw [e] at q; exact fun W H' σ s o => q W H' s.s o.g .non .non
  | rt sv st' => rw [e] at q; exact fun W H' v s g r => q W H' s.s g v r
  | bk env st' => rw [e] at q; exact q.elim
  | ct env st' => rw [e] at q; exact q.elim
  | ex c l env st' => rw [e] at q; exact fun W H' σ cls d s o x => q W H' cls d s.s o.g x
  | no => rw [e] at q; exact q
/-! ### cells of a call's own are forgotten -/
mutual
def noRef (n : Nat) : PV → Bool
  | .ref m => decide (m < n)
  | .tup l => noRefs n l
  | .lst l => noRefs n l
  | .rd l => noRefs n l
  | .obj _ l => noRefs n l
  | .dct _ l => noRefs n l
  | .exv _ l => noRefs n l
  | _ => true
def noRefs (n : Nat) : List PV → Bool
  | [] => true
  | p :: l => noRef n p && noRefs n l
end
mutual
theorem Rep.cut {n : Nat} : ∀ {v : V} {p : PV}, Rep G W v p → noRef n p = true → Rep G ⟨W.ρ.take n, W.F⟩ v p
  | _, _, .non, _ => .non
  | _, _, .bl b, _ => .bl b
  | _, _, .int i, _ => .int i
  | _, _, .str s, _ => .str s
  | _, _, .tup h r, e => .tup h (RepL.cut r (by simpa [noRef] using e))
  | _, _, .lst h r, e => .lst h (RepL.cut r (by simpa [noRef] using e))
  | _, _, .rd h r, e => .rd h (RepL.cut r (by simpa [noRef] using e))
  | _, _, .obj h k r, e => .obj h k (RepL.cut r (by simpa [noRef] using e))
  | _, _, .dct h k r, e => .dct h k (RepL.cut r (by simpa [noRef] using e))
  | _, _, .exv0 h, _ => .exv0 h
  | _, _, .exv1 h k j r, e => .exv1 h k j (RepL.cut r (by simpa [noRef] using e))
  | _, _, @Rep.ref _ _ k a h, e => .ref (by
    have e : k < n := by simpa [noRef] using e
    show (W.ρ.take n)[k]? = some a
    rw [List.getElem?_take, if_pos e]; exact h)
theorem RepL.cut {n : Nat} : ∀ {vs : List V} {l : List PV}, RepL G W vs l → noRefs n l = true → RepL G ⟨W.ρ.take n, W.F⟩ vs l
  | _, _, .nil, _ => .nil
  | _, _, @RepL.cons _ _ v vs p l h r, e => by
    have e : noRef n p = true ∧ noRefs n l = true := by simpa [noRefs] using e
    exact .cons (Rep.cut h e.1) (RepL.cut r e.2)
end
def Cell.items : Cell → List PV
  | .dead => []
  | .lst l => l
  | .ins _ l => l
  | .dct _ l => l
def svNoRef (n : Nat) : SV → Bool
  | .un => true
  | .t p => noRef n p
  | .own c => noRefs n c.items
def tidy (f : List PV → M SV) : List PV → M SV := fun l st => match f l st with
  | .ok sv st' => if svNoRef st.length sv = true ∧ ((st'.take st.length).all fun c => noRefs st.length c.items) = true then .ok sv (st'.take st.length) else .no
  | r => r
theorem CellHp.cut {n : Nat} {a : Addr} {c : Cell} (h : CellHp G W H a c) (e : noRefs n c.items = true) : CellHp G ⟨W.ρ.take n, W.F⟩ H a c := by
  cases c with
  | dead => exact h
  | lst l => obtain ⟨vs, e1, r⟩ := h; exact ⟨vs, e1, r.cut e⟩
  | ins c l => obtain ⟨dx, fs, e1, k, r⟩ := h; exact ⟨dx, fs, e1, k, r.cut e⟩
  | dct ks l => obtain ⟨kvs, e1, k, r⟩ := h; exact ⟨kvs, e1, k, r.cut e⟩
theorem sp_tidy {n : Nat} {f : List PV → M SV} {vs : List V} {Q : VK} {E : XK} (h : spF G n (tidy f) vs H Q E) : spF G n f vs H Q E := by
  obtain ⟨hl, W, st, l, g, r, q⟩ := h
  refine ⟨hl, W, st, l, g, r, ?_⟩
  unfold tidy at q
  cases e : f l st with
  | ex c l st' => rw [e] at q; exact q
  | no => rw [e] at q; exact q
  | ok sv st' =>
    rw [e] at q
    have q : Post G (fun cls d _ H => E cls d H) [] W st H (fun sv W' st' H' => ∀ v, ResOk G W' st' H' H v sv → Q v H') (if svNoRef st.length sv = true ∧ ((st'.take st.length).all fun c => noRefs st.length c.items) = true then Res.ok sv (st'.take st.length) else .no) := q
    by_cases hc : svNoRef st.length sv = true ∧ ((st'.take st.length).all fun c => noRefs st.length c.items) = true
    · rw [if_pos hc] at q
      intro W' H' s g' v hv
      obtain ⟨more, hρ⟩ := s.le.pre
      have hn : W.ρ.length = st.length := g.len
      have et : W'.ρ.take st.length = W.ρ := by rw [hρ, ← hn, List.take_left]
      have lv : ∀ b, LiveAt ⟨W'.ρ.take st.length, W'.F⟩ (st'.take st.length) b → LiveAt W' st' b := fun b ⟨m, c, h1, h2, h3⟩ => by
        have h1 : (W'.ρ.take st.length)[m]? = some b := h1
        rw [List.getElem?_take] at h1 h2
        split at h1
        · rename_i hm
          rw [if_pos hm] at h2
          exact ⟨m, c, h1, h2, h3⟩
        · cases h1
      refine q ⟨W'.ρ.take st.length, W'.F⟩ H' ⟨⟨⟨[], by rw [et]; simp⟩, s.le.F⟩, s.fr, s.there, s.newF, fun b hb => s.newL b (lv b hb)⟩ ⟨g'.sub, ?_, fun m b c h1 h2 lc => ?_, fun m k b c d h1 h2 h3 h4 l1 l2 => ?_⟩ v ?_
      · show (W'.ρ.take st.length).length = (st'.take st.length).length
        rw [List.length_take, List.length_take, g'.len]
      · have h1 : (W'.ρ.take st.length)[m]? = some b := h1
        have hm : noRefs st.length c.items = true := by
          have := List.all_eq_true.mp hc.2 c (List.mem_of_getElem? h2)
          exact this
        rw [List.getElem?_take] at h1 h2
        split at h1
        · rename_i hlt
          rw [if_pos hlt] at h2
          obtain ⟨z1, z2⟩ := g'.cell m b c h1 h2 lc
          exact ⟨z1, z2.cut hm⟩
        · cases h1
      · have h1 : (W'.ρ.take st.length)[m]? = some b := h1
        have h2 : (W'.ρ.take st.length)[k]? = some b := h2
        rw [List.getElem?_take] at h1 h2 h3 h4
        split at h1
        · rename_i z1
          rw [if_pos z1] at h3
          split at h2
          · rename_i z2
            rw [if_pos z2] at h4
            exact g'.inj m k b c d h1 h2 h3 h4 l1 l2
          · cases h2
        · cases h1
      · cases sv with
        | un => exact hv
        | t p => exact Rep.cut hv hc.1
        | own c =>
          obtain ⟨a, ea, oa⟩ := hv
          exact ⟨a, ea, oa.ob.cut hc.1, oa.fr, fun z => oa.lv (lv a z), oa.nw⟩
    · rw [if_neg hc] at q; exact q.elim
theorem ok_tidy {P : Program} {w : World} {K : PySem.W.Frag} {mg : Str → Option Value} {base : Heap} {k n : Nat} {fa : Addr} {fd : FuncData} {ps : List Str} {CX : CXT} {f : List PV → M SV} (F : FnOk P w K mg base CX k fa fd ps (spF G n f)) : FnOk P w K mg base CX k fa fd ps (spF G n (tidy f)) :=
  F.imp fun _ _ _ _ h => sp_tidy h
end
end Mi

namespace Mi
open PySem L2
/-- a def of the module: where it stands -/
structure Df (K : PySem.W.Frag) (mg : Str → Option Value) (x : Str) (st : Stmt) (ps : List Str) (fa : Addr) (fd : FuncData) : Prop where
  fn : FunD K x x (defArgs st) (defBody st) (defScope st) [] [] fa fd
  mg : mg x = some (.ref fa)
  b : Binds K fd ps []
section
variable {P : Program} {w : World} {K : PySem.W.Frag} {mg : Str → Option Value} {base : Heap} {G : Glo}
abbrev wxE (E : XK) : WX := fun cls d _ H => E cls d H
theorem ok_of {x : Str} {st : Stmt} {ps N : List Str} {fa : Addr} {fd : FuncData} {n k : Nat} {m : SM} (D : Df K mg x st ps fa fd) (S : FnScope N ps (defScope st)) (hn : ps.length = n)
    (d : ∀ (cdv : Value) (A : Around) (outer : List Env) (s : Shared) (H : Hp) (E : XK), Room k (A.deeper (PyProof.Rows.envOfC x (defScope st) s.heap.objs.size fa cdv)) →
      PSs (cxOf (L2.CX P w) P w K mg base N x (defScope st) fa cdv A outer s H E) (defBody st) (tS G (wxE E) m)) : FnOk P w K mg base (L2.CX P w) (k + 1) fa fd ps (spF G n (runF N.length m)) :=
  D.fn.ok S (fun vs H Q E h => by rw [h.1, hn]) fun cdv A outer s H vs Q E hr h => ⟨_, d cdv A outer s H E hr, rd_body h⟩
theorem big_of {qual : Str} {scope : Scope} {fa : Addr} {cdv : Value} {A : Around} {outer : List Env} {s : Shared} {H : Hp} {E : XK} {N : List Str} {k : Nat} (hs : base.NoSeer) (ht : P.given.tree = none) (h1 : scope.isGenerator = false) (h2 : scope.isCoroutine = false)
    (hr : Room k (A.deeper (PyProof.Rows.envOfC qual scope s.heap.objs.size fa cdv))) (hk : 40 ≤ k) : Big (cxOf (L2.CX P w) P w K mg base N qual scope fa cdv A outer s H E) where
  seer := hs
  tree := ht
  fr := ⟨_, _, rfl, h1, h2, rfl, rfl⟩
  dp := by
    have := hr.dp
    show (A.deeper (PyProof.Rows.envOfC qual scope s.heap.objs.size fa cdv)).depth + 100 < recursionLimit
    omega
end
end Mi

namespace Mi
open PySem L2
section
variable {G : Glo} {wx : WX} {W W' W1 W2 : Wd} {st st' st1 st2 : Store} {H H' H0 H1 H2 Hs : Hp} {σ : L2.St} {env : Ev} {D : Ends} {B : Bs}
variable {X : Cx} {a b c e o tg iter : Expr} {ma mb mo mi me : Ev → M PV} {m : Ev → M SV} {pos p apos tpos cpos : Pos} {es : List Expr} {ms : Ev → M (List PV)}
/-- what is never reached -/
def neverS : SM := fun _ _ => .no
theorem r_never {s : Stmt} : PS X s (tS G wx neverS) := ps_never.weak fun D σ H ⟨B, W, st, env, s, o, q⟩ => q
theorem r_neverE : PE X e (tV G wx fun _ => fail) := ⟨fun pins s σ H Q I ⟨H0, W, st, env, o, q⟩ => q.elim⟩
theorem r_rep (ha : PE X a (tP G wx ma)) (hb : PE X b (tP G wx mb)) : PE X (.BinOp a .Mult b pos) (tV G wx (op2L repF ma mb)) :=
  (pe_op op_rep ha hb).weak (rd_op2L fun W st H x y p q z Q g r1 r2 e k => by
    cases r2 <;> first | (cases e; done) | skip
    rename_i n
    have e' : ((drfL p st).bind fun l => if -(2 ^ 63) ≤ n ∧ n < 2 ^ 63 ∧ l.length * n.toNat ≤ sizeLine then some (List.flatten (List.replicate n.toNat l)) else none) = some z := e
    simp only [Option.bind_eq_some_iff] at e'
    obtain ⟨l, e1, e2⟩ := e'
    by_cases hl : -(2 ^ 63) ≤ n ∧ n < 2 ^ 63 ∧ l.length * n.toNat ≤ sizeLine
    · rw [if_pos hl] at e2
      cases e2
      obtain ⟨a1, vs, rfl, h1, q1⟩ := drfL_ok g r1 e1
      refine ⟨a1, n, vs, rfl, rfl, h1, hl.1, hl.2.1, by rw [q1.len]; exact hl.2.2, fun p hp => k p _ hp ?_⟩
      have : ∀ j : Nat, RepL G W (List.replicate j vs).flatten (List.replicate j l).flatten := fun j => by
        induction j with
        | zero => exact .nil
        | succ j ih =>
          rw [List.replicate_succ, List.replicate_succ, List.flatten_cons, List.flatten_cons]
          exact q1.append ih
      exact this _
    · rw [if_neg hl] at e2; cases e2)
/-! ### in -/
def toFl : PV → Option V
  | .non => some .non
  | .bl b => some (.bl b)
  | .int i => some (.int i)
  | .str s => some (.str s)
  | _ => none
def toFls : List PV → Option (List V)
  | [] => some []
  | p :: l => (toFl p).bind fun v => (toFls l).map fun vs => v :: vs
theorem toFl_ok {v w : V} {p : PV} (r : Rep G W v p) (e : toFl p = some w) : v = w ∧ flatV w = true := by
  cases r <;> first | (cases e; done) | (cases e; exact ⟨rfl, rfl⟩)
theorem toFls_ok : ∀ {vs ws : List V} {l : List PV}, RepL G W vs l → toFls l = some ws → vs = ws ∧ ws.all flatV = true
  | _, _, _, .nil, e => by cases e; exact ⟨rfl, rfl⟩
  | _, _, _, .cons h r, e => by
    simp only [toFls, Option.bind_eq_some_iff, Option.map_eq_some_iff] at e
    obtain ⟨w, e1, ws, e2, rfl⟩ := e
    obtain ⟨rfl, f1⟩ := toFl_ok h e1
    obtain ⟨rfl, f2⟩ := toFls_ok r e2
    exact ⟨rfl, by rw [List.all_cons, f1, f2]; rfl⟩
def inB (neg : Bool) (p q : PV) (st : Store) : Option PV := (toFl p).bind fun x => (drf q st).bind fun l => (toFls l).map fun xs => .bl (if neg then !inV x xs else inV x xs)
abbrev inF := inB false
abbrev ninF := inB true
theorem hf_in {neg : Bool} : ∀ W st H x y p q z (Q : VK), Good G W st H → Rep G W x p → Rep G W y q → inB neg p q st = some z → (∀ v, Rep G W v z → Q v H) → rIn G.K neg x y H Q := by
  intro W st H x y p q z Q g r1 r2 e k
  unfold inB at e
  simp only [Option.bind_eq_some_iff, Option.map_eq_some_iff] at e
  obtain ⟨v, e1, l, e2, xs, e3, rfl⟩ := e
  obtain ⟨rfl, f1⟩ := toFl_ok r1 e1
  obtain ⟨ad, vs, rfl, h, r⟩ := drf_ok g r2 e2
  obtain ⟨rfl, f2⟩ := toFls_ok r e3
  exact ⟨ad, vs, rfl, h, f1, f2, k _ (.bl _)⟩
theorem r_in (hK : X.K = G.K) (ha : PE X a (tP G wx ma)) (hb : PE X b (tP G wx mb)) (hm : behindInMarks .In b = false := by rfl) : PE X (.Compare a [.In] [b] pos) (tP G wx (op2S inF ma mb)) := (pe_cmpR op_in_seq ha hb hm).weak (rd_op2S (by rw [hK]; exact hf_in))
theorem r_nin (hK : X.K = G.K) (ha : PE X a (tP G wx ma)) (hb : PE X b (tP G wx mb)) (hm : behindInMarks .NotIn b = false := by rfl) : PE X (.Compare a [.NotIn] [b] pos) (tP G wx (op2S ninF ma mb)) := (pe_cmpR op_notIn_seq ha hb hm).weak (rd_op2S (by rw [hK]; exact hf_in))
theorem cmpS_T {op : CmpOp} {r : R2} {f : PV → PV → Store → Option PV} (ho : OpR X (compareOp op) r) (hf : ∀ W st H x y p q z (Q : VK), Good G W st H → Rep G W x p → Rep G W y q → f p q st = some z → (∀ v, Rep G W v z → Q v H) → r x y H Q)
    (ha : PE X a (tP G wx ma)) (hb : PE X b (tP G wx mb)) (hm : behindInMarks op b = false) : PT X (.Compare a [op] [b] pos) (tT G wx (bP (op2S f ma mb))) :=
  (pt_cmpR ho ha hb hm).weak fun σ H Q ⟨H0, W, st, env, o, q⟩ => rd_op2S hf σ H _ ⟨H0, W, st, env, o, (Post.split q).mono fun p W1 st1 H1 s g q v r => by
    cases r with
    | bl b => exact ⟨b, rfl, q.here g⟩
    | _ => exact q.elim⟩
theorem r_inT (hK : X.K = G.K) (ha : PE X a (tP G wx ma)) (hb : PE X b (tP G wx mb)) (hm : behindInMarks .In b = false := by rfl) : PT X (.Compare a [.In] [b] pos) (tT G wx (bP (op2S inF ma mb))) := cmpS_T op_in_seq (by rw [hK]; exact hf_in) ha hb hm
theorem r_ninT (hK : X.K = G.K) (ha : PE X a (tP G wx ma)) (hb : PE X b (tP G wx mb)) (hm : behindInMarks .NotIn b = false := by rfl) : PT X (.Compare a [.NotIn] [b] pos) (tT G wx (bP (op2S ninF ma mb))) := cmpS_T op_notIn_seq (by rw [hK]; exact hf_in) ha hb hm
/-! ### isinstance, a built-in class -/
def tyN (p : PV) (st : Store) : Option String := match p with
  | .non => some "NoneType"
  | .bl _ => some "bool"
  | .int _ => some "int"
  | .str _ => some "str"
  | .tup _ => some "tuple"
  | .lst _ => some "list"
  | .dct _ _ => some "dict"
  | .ref n => match st[n]? with
    | some (.lst _) => some "list"
    | some (.dct _ _) => some "dict"
    | _ => none
  | _ => none
theorem tyN_ok (g : Good G W st H) {v : V} {p : PV} {n : String} (r : Rep G W v p) (e : tyN p st = some n) : TyX G.K H v (.type n) := by
  cases r with
  | non => cases e; exact .base .non
  | bl b => cases e; exact .base (.bl b)
  | int i => cases e; exact .base (.int i)
  | str s => cases e; exact .base (.str s)
  | tup h r =>
    cases e
    rcases SqT.same g.sub h with (h | ⟨o, h⟩) | ⟨o, its, n, h1, h2, _⟩
    · exact .base (.tup h)
    · exact .fTuple h
    · exact .kTuple h1 h2
  | lst h r => cases e; exact .base (.lst (g.at h))
  | dct h k r => cases e; exact .base (.dK (g.at h))
  | @ref k ad h =>
    have e' : (match st[k]? with | some (.lst _) => some "list" | some (.dct _ _) => some "dict" | _ => none) = some n := e
    cases e2 : st[k]? with
    | none => rw [e2] at e'; cases e'
    | some c =>
      rw [e2] at e'
      cases c with
      | lst l => cases e'; obtain ⟨_, vs, ev, r⟩ := g.cell k ad _ h e2 rfl; exact .base (.lst ev)
      | dct ks l => cases e'; obtain ⟨_, vs, ev, r⟩ := g.cell k ad _ h e2 rfl; exact .base (.dK ev)
      | _ => cases e'
  | _ => cases e
def isiF (T : String) (p : PV) (st : Store) : Option PV := (tyN p st).bind fun n => (kitB n T).map .bl
theorem r_isi (hK : X.K = G.K) {T : String} {x : Str} {p1 p2 : Pos} (hm : X.mg "isinstance" = none) (hT : X.mg x = none) (hv : bootBuiltins x = some (.type T)) (ha : PE X a (tP G wx ma)) (hg : Gl X "isinstance" := by rfl) (hgT : Gl X x := by rfl) (hn : x ≠ "__name__" := by decide) (hd : (x == ("__debug__" : Str)) = false := by decide)
    (he : starEach [a, .Name x p2] X.env = (false, eval a X.env) :: starEach [.Name x p2] X.env := by rfl) (he2 : starEach [.Name x p2] X.env = (false, eval (.Name x p2) X.env) :: starEach [] X.env := by rfl) (hpl : (backTo pos (starEach [.Name x p2] X.env)).any (·.1) = false := by rfl) :
    PE X (.Call (.Name "isinstance" p1) [a, .Name x p2] [] pos) (tP G wx (op1S (isiF T) ma)) :=
  (pe_callB call_isi hg hm (by decide +kernel) (pa_cons ha (pa_cons (pe_bltn (v := .ty T) hgT hT hv rfl hn hd) pa_nil he2) he) (by decide) (by decide) he hpl).weak fun σ H Q ⟨H0, W, st, env, o, q⟩ => ⟨H0, W, st, env, o, (Post.split q).mono fun p W1 st1 H1 s g q v r => by
    obtain ⟨z, e1, k⟩ := sget_post g q
    unfold isiF at e1
    simp only [Option.bind_eq_some_iff, Option.map_eq_some_iff] at e1
    obtain ⟨n, e2, bb, e3, rfl⟩ := e1
    exact ⟨v, .ty T, .type n, .type T, bb, rfl, .ty T, by rw [hK]; exact tyN_ok g r e2, kit_ty e3, k _ (.bl _)⟩⟩

/-! ### fields stored -/
def setFld (c j : Nat) (n : Nat) (p : PV) : SM := fun env st => match st[n]? with
  | some (.ins d l) => if d = c ∧ j ≤ l.length then .nx env (st.set n (.ins d (if j = l.length then l ++ [p] else l.set j p))) else .no
  | _ => .no
def setFldS (i c j : Nat) (me : Ev → M PV) : SM := exprS me fun p => exprS (vr i) fun h => refS h fun n => setFld c j n p
theorem putF_new {f : Str} {y : V} : ∀ {fs : List (Str × V)}, f ∉ fs.map (·.1) → putF f y fs = fs ++ [(f, y)]
  | [], _ => rfl
  | (g, u) :: r, h => by
    rw [List.map_cons, List.mem_cons, not_or] at h
    have ne : ¬ g = f := fun z => h.1 z.symm
    show (if g = f then _ else (g, u) :: putF f y r) = _
    rw [if_neg ne, putF_new h.2]; rfl
theorem putF_old {f : Str} {y : V} : ∀ {fs : List (Str × V)} {j : Nat}, (fs.map (·.1)).Nodup → (fs.map (·.1))[j]? = some f → putF f y fs = fs.set j (f, y)
  | [], j, _, h => by simp at h
  | (g, u) :: r, 0, _, h => by
    have h : g = f := by simpa using h
    show (if g = f then (g, y) :: r else _) = _
    rw [if_pos h, h]; rfl
  | (g, u) :: r, j + 1, hd, h => by
    rw [List.map_cons, List.nodup_cons] at hd
    have h : (r.map (·.1))[j]? = some f := by simpa using h
    have ne : ¬ g = f := fun z => hd.1 (by rw [z]; exact List.mem_of_getElem? h)
    show (if g = f then _ else (g, u) :: putF f y r) = _
    rw [if_neg ne, putF_old hd.2 h]; rfl
theorem r_setFld (hK : X.K = G.K) {i c j : Nat} {fn : Str} {p' : Pos} (hc : Cls G.K (G.ca c)) (hf : FldOk G c j fn) (hi : PE X o (tP G wx (vr i))) (he : PE X e (tP G wx me)) (hs : swapsWith e (some (.Attribute o fn p')) pos.line X.env = pure false := by rfl) :
    PS X (.Assign [.Attribute o fn p'] e pos) (tS G wx (setFldS i c j me)) :=
  (ps_fld hi he hs).weak fun D σ H ⟨B, W, st, env, s, o, q⟩ => ⟨B.H, W, st, env, o, (PostS.split s o q).mono fun p W1 st1 H1 s1 g1 q1 v rv => by
    have o1 := o.step s1 g1
    have t1 := s.trans s1
    refine ⟨B.H, W1, st1, env, o1, (PostS.split t1 o1 q1).mono fun h W2 st2 H2 s2 g2 q2 u ru => ?_⟩
    cases ru <;> first | (exact q2.elim) | skip
    rename_i n ad hn
    have q2 : PostS G wx B D (match st2[n]? with
      | some (.ins d l) => if d = c ∧ j ≤ l.length then .nx env (st2.set n (.ins d (if j = l.length then l ++ [p] else l.set j p))) else .no
      | _ => .no) := q2
    cases e2 : st2[n]? with
    | none => rw [e2] at q2; exact q2.elim
    | some cl =>
      rw [e2] at q2
      cases cl with
      | ins d l =>
        have q3 : PostS G wx B D (if d = c ∧ j ≤ l.length then .nx env (st2.set n (.ins d (if j = l.length then l ++ [p] else l.set j p))) else .no) := q2
        by_cases hd : d = c ∧ j ≤ l.length
        · rw [if_pos hd] at q3
          clear q2
          obtain ⟨rfl, hj⟩ := hd
          obtain ⟨_, dx, fs, h1, h2, h3⟩ := g2.cell n ad _ hn e2 rfl
          have hlen : fs.length = l.length := by have := h3.len; simpa using this
          have nd : (fs.map (·.1)).Nodup := by rw [h2]; exact hf.nd.sublist (List.take_sublist _ _)
          have hcf : j < (G.cf d).length := (List.getElem?_eq_some_iff.mp hf.at_).1
          have hz : fs.length < 1000 := by
            have h5 : (fs.map (·.1)).length ≤ (G.cf d).length := by rw [h2, List.length_take]; omega
            rw [List.length_map] at h5
            have := hf.ln
            omega
          refine ⟨ad, _, dx, fs, rfl, h1, by rw [hK]; exact hc, by rw [hK]; exact hf.na, hz, ?_⟩
          have rv2 := rv.mono s2.le
          have cell : CellHp G W2 (upd H2 ad (.ins (G.ca d) dx (putF fn v fs))) ad (.ins d (if j = l.length then l ++ [p] else l.set j p)) := by
            refine ⟨dx, putF fn v fs, upd_same, ?_, ?_⟩
            · by_cases hj2 : j = l.length
              · rw [if_pos hj2, putF_new, List.map_append, h2, List.length_append]
                · show List.take l.length (G.cf d) ++ [fn] = List.take (l.length + 1) (G.cf d)
                  rw [List.take_add_one, ← hj2, hf.at_]; rfl
                · rw [h2]
                  intro z
                  obtain ⟨k, hk, ek⟩ := List.getElem_of_mem z
                  rw [List.getElem_take] at ek
                  have hk2 : k < j := by rw [List.length_take] at hk; omega
                  have e3 : (G.cf d)[k]? = some fn := by rw [← ek]; exact List.getElem?_eq_getElem _
                  have := (List.getElem?_inj (by omega) hf.nd).mp (e3.trans hf.at_.symm)
                  omega
              · have hj3 : j < l.length := by omega
                have ef : (fs.map (·.1))[j]? = some fn := by rw [h2, List.getElem?_take, if_pos hj3]; exact hf.at_
                rw [if_neg hj2, putF_old nd ef, List.map_set, h2, List.length_set]
                apply List.ext_getElem?
                intro k
                by_cases hk : j = k
                · subst hk
                  rw [List.getElem?_set_self (by rw [List.length_take]; omega), List.getElem?_take, if_pos hj3]; exact hf.at_.symm
                · rw [List.getElem?_set_ne hk]
            · by_cases hj2 : j = l.length
              · rw [if_pos hj2, putF_new, List.map_append]
                · exact h3.append (.one rv2)
                · rw [h2]
                  intro z
                  obtain ⟨k, hk, ek⟩ := List.getElem_of_mem z
                  rw [List.getElem_take] at ek
                  have hk2 : k < j := by rw [List.length_take] at hk; omega
                  have e3 : (G.cf d)[k]? = some fn := by rw [← ek]; exact List.getElem?_eq_getElem _
                  have := (List.getElem?_inj (by omega) hf.nd).mp (e3.trans hf.at_.symm)
                  omega
              · have hj3 : j < l.length := by omega
                have ef : (fs.map (·.1))[j]? = some fn := by rw [h2, List.getElem?_take, if_pos hj3]; exact hf.at_
                rw [if_neg hj2, putF_old nd ef, List.map_set]
                exact h3.set j rv2
          obtain ⟨g5, s5⟩ := wr_cell g2 hn e2 rfl rfl cell
          exact q3 W2 _ σ ((t1.trans s2).trans s5) ((o1.step s2 g2).step s5 g5)
        · rw [if_neg hd] at q3; exact q3.elim
      | _ => exact q2.elim⟩
/-! ### an instance is made -/
/-- what nobody knows becomes a cell -/
theorem Good.add (g : Good G W st H) {a : Addr} {c : Cell} (h : CellHp G W H a c) (hf : W.F a = none) (hl : ¬ LiveAt W st a) :
    Good G ⟨W.ρ ++ [a], W.F⟩ (st ++ [c]) H ∧ Wle W ⟨W.ρ ++ [a], W.F⟩ ∧ (∀ b, LiveAt ⟨W.ρ ++ [a], W.F⟩ (st ++ [c]) b → LiveAt W st b ∨ b = a) ∧ (W.ρ ++ [a])[st.length]? = some a := by
  have le : Wle W ⟨W.ρ ++ [a], W.F⟩ := ⟨⟨[a], rfl⟩, fun _ _ h => h⟩
  have hlen : W.ρ.length = st.length := g.len
  have at_ : ∀ (n : Nat) (b : Addr) (d : Cell), (W.ρ ++ [a])[n]? = some b → (st ++ [c])[n]? = some d → (W.ρ[n]? = some b ∧ st[n]? = some d) ∨ (n = st.length ∧ b = a ∧ d = c) := fun n b d h1 h2 => by
    by_cases hn : n < st.length
    · rw [List.getElem?_append_left (by omega)] at h1
      rw [List.getElem?_append_left hn] at h2
      exact .inl ⟨h1, h2⟩
    · have hn2 : n < (st ++ [c]).length := (List.getElem?_eq_some_iff.mp h2).1
      have en : n = st.length := by simp at hn2; omega
      subst en
      rw [List.getElem?_append_right (by omega), Nat.sub_self] at h2
      rw [← hlen, List.getElem?_append_right (Nat.le_refl _), Nat.sub_self] at h1
      simp at h1 h2
      exact .inr ⟨rfl, h1.symm, h2.symm⟩
  have lv : ∀ b, LiveAt ⟨W.ρ ++ [a], W.F⟩ (st ++ [c]) b → LiveAt W st b ∨ b = a := fun b ⟨n, d, h1, h2, h3⟩ => by
    rcases at_ n b d h1 h2 with ⟨z1, z2⟩ | ⟨_, z, _⟩
    · exact .inl ⟨n, d, z1, z2, h3⟩
    · exact .inr z
  refine ⟨⟨g.sub, by simp [hlen], fun n b d h1 h2 => ?_, fun n m b d d' h1 h2 h3 h4 l1 l2 => ?_⟩, le, lv, by rw [← hlen, List.getElem?_append_right (Nat.le_refl _), Nat.sub_self]; rfl⟩
  · rcases at_ n b d h1 h2 with ⟨z1, z2⟩ | ⟨_, rfl, rfl⟩
    · exact (g.cell n b d z1 z2).mono le (fun l => (g.cell n b d z1 z2 l).1) fun _ => rfl
    · exact fun _ => ⟨hf, CellHp.mono le rfl h⟩
  · rcases at_ n b d h1 h3 with ⟨z1, z2⟩ | ⟨n1, b1, c1⟩
    · rcases at_ m b d' h2 h4 with ⟨y1, y2⟩ | ⟨m1, b2, c2⟩
      · exact g.inj n m b d d' z1 y1 z2 y2 l1 l2
      · subst b2; exact absurd ⟨n, d, z1, z2, l1⟩ hl
    · rcases at_ m b d' h2 h4 with ⟨y1, y2⟩ | ⟨m1, b2, c2⟩
      · subst b1; exact absurd ⟨m, d', y1, y2, l2⟩ hl
      · omega
/-- the store cut back to what it was, one thing taken out of it -/
theorem Good.cut {n : Nat} (g : Good G W st H) (hn : (st.take n).all (fun c => noRefs n c.items) = true) : Good G ⟨W.ρ.take n, W.F⟩ (st.take n) H ∧ ∀ b, LiveAt ⟨W.ρ.take n, W.F⟩ (st.take n) b → ∃ m, m < n ∧ W.ρ[m]? = some b ∧ ∃ c, st[m]? = some c ∧ c.live = true := by
  have key : ∀ (m : Nat) (b : Addr) (c : Cell), (W.ρ.take n)[m]? = some b → (st.take n)[m]? = some c → m < n ∧ W.ρ[m]? = some b ∧ st[m]? = some c := fun m b c h1 h2 => by
    rw [List.getElem?_take] at h1 h2
    split at h1
    · rename_i hm
      rw [if_pos hm] at h2
      exact ⟨hm, h1, h2⟩
    · cases h1
  refine ⟨⟨g.sub, by show (W.ρ.take n).length = (st.take n).length; rw [List.length_take, List.length_take, g.len], fun m b c h1 h2 lc => ?_, fun m k b c d h1 h2 h3 h4 l1 l2 => ?_⟩, fun b ⟨m, c, h1, h2, h3⟩ => ?_⟩
  · obtain ⟨_, e1, e2⟩ := key m b c h1 h2
    obtain ⟨z1, z2⟩ := g.cell m b c e1 e2 lc
    exact ⟨z1, z2.cut (List.all_eq_true.mp hn c (List.mem_of_getElem? h2))⟩
  · obtain ⟨_, e1, e2⟩ := key m b c h1 h3
    obtain ⟨_, e3, e4⟩ := key k b d h2 h4
    exact g.inj m k b c d e1 e3 e2 e4 l1 l2
  · obtain ⟨e0, e1, e2⟩ := key m b c h1 h2
    exact ⟨m, e0, e1, c, e2, h3⟩
def newF (c : Nat) (f : List PV → M SV) (l : List PV) : M SV := fun st => match f (.ref st.length :: l) (st ++ [.ins c []]) with
  | .ok (.t .non) st' => match st'[st.length]? with
    | some (.ins d fl) => if d = c ∧ noRefs st.length fl = true ∧ ((st'.take st.length).all fun c => noRefs st.length c.items) = true then .ok (.own (.ins c fl)) (st'.take st.length) else .no
    | _ => .no
  | .ex d l st' => if noRefs st.length l = true ∧ ((st'.take st.length).all fun c => noRefs st.length c.items) = true then .ex d l (st'.take st.length) else .no
  | _ => .no
def newM (c n : Nat) (f : List PV → M SV) (ms : Ev → M (List PV)) : Ev → M SV := fun env => bnd (ms env) fun l => if l.length = n then newF c f l else fail
variable {k n : Nat} {f C : Addr} {fd : FuncData} {ps : List Str} {fm : List PV → M SV} {x : Str}
theorem run_makeS {pins : List (Addr × Obj)} {σ : L2.St} {H : Hp} {s : Shared} {Q : VK} {us : List Value} {vs : List V} {sp : Sp} {E : L2.St → XK} {CX : CXT} (M : Mk X.K C f) (F : FnOk X.prog X.w X.K X.mg X.base CX k f fd ps sp) (hr : Room (k + 1) X.A) (hb : Binds X.K fd ps [])
    (hx : PassesAt CX X σ (E σ)) (I : Inv X pins σ H s) (r : Vals vs us)
    (h : ∀ x dx, H x = none → H dx = none → dx ≠ x → sp (.ref x :: vs) (upd (upd H dx (.own x)) x (.ins C dx [])) (fun v H2 => v = .non ∧ Q (.ref x) H2) (E σ)) :
    wpAny (model X.prog X.w) X.A (call (.ref C) us) (EP X pins σ Q) X.xe s := by
  have hq := h (s.heap.objs.size + 1) s.heap.objs.size (I.hok.fresh (Nat.le_succ _)) (I.hok.fresh (Nat.le_refl _)) (Nat.ne_of_lt (Nat.lt_succ_self _))
  have I2 := Inv.made (C := C) I
  have r2 : Vals (V.ref (s.heap.objs.size + 1) :: vs) (Value.ref (s.heap.objs.size + 1) :: us) := .cons rfl r
  have hl : (Value.ref (s.heap.objs.size + 1) :: us ++ []).length = ps.length := by
    have e := r2.length
    rw [F.len _ _ _ _ hq] at e
    rw [List.append_nil]
    exact e.symm
  refine wpAny_call (make_map (f := f) I.kIn M.makes M.init (beq_iff_eq.mp M.fn) (codeAny_mono (F.run _ X.stack _ _ ⟨Value.ref (s.heap.objs.size + 1) :: us, []⟩ (Value.ref (s.heap.objs.size + 1) :: us) _ _ (E σ) (hr.make C us [])
    (I2.env0.make C us []) (by have := hb _ (Value.ref (s.heap.objs.size + 1) :: us) I2.kIn hl; rw [List.append_nil] at this; exact this) r2 hq) fun r s' hq' => ?_))
  cases r with
  | error e => exact hx pins _ _ e s' I2 hq'
  | ok fl =>
    cases fl with
    | ret u =>
      obtain ⟨v, H', I3, rv, ev, q3⟩ := I2.after hq'
      subst ev
      exact ⟨rv, ⟨V.ref (s.heap.objs.size + 1), H', I3, rfl, q3⟩⟩
    | next => exact False.elim hq'
    | brk => exact False.elim hq'
    | cont => exact False.elim hq'
theorem sp_new {c : Nat} {l : List PV} {vs : List V} {Q : VK} (g : Good G W1 st1 H1) (s : Step W st H W1 st1 H1) (r : RepL G W1 vs l) (hl : l.length = n)
    (q : Post G wx σ W1 st1 H1 (fun sv W' st' H' => ∀ v, ResOk G W' st' H' H v sv → Q v H') (newF c fm l st1)) {x dx : Addr} (hx : H1 x = none) (hdx : H1 dx = none) (ne : dx ≠ x) :
    spF G (n + 1) fm (.ref x :: vs) (upd (upd H1 dx (.own x)) x (.ins (G.ca c) dx [])) (fun v H2 => v = .non ∧ Q (.ref x) H2) (WE wx σ) := by
  obtain ⟨ga, sa⟩ := g.junk (o := .own x) hdx
  have hx2 : (upd H1 dx (.own x)) x = none := by rw [upd_ne (Ne.symm ne)]; exact hx
  obtain ⟨gb, sb⟩ := ga.junk (o := .ins (G.ca c) dx []) hx2
  have fx : W1.F x = none := g.sub.free hx
  have lx : ¬ LiveAt W1 st1 x := fun z => (live_some g z).1 hx
  obtain ⟨gc, le, lv, hat⟩ := gb.add (a := x) (c := .ins c []) ⟨dx, [], upd_same, rfl, .nil⟩ fx lx
  have sab := sa.trans sb
  have sc : Step W1 st1 H1 ⟨W1.ρ ++ [x], W1.F⟩ (st1 ++ [.ins c []]) (upd (upd H1 dx (.own x)) x (.ins (G.ca c) dx [])) := ⟨le, sab.fr, sab.there, sab.newF, fun b hb => by
    rcases lv b hb with z | z
    · exact .inl z
    · subst z; exact .inr hx⟩
  refine ⟨by rw [List.length_cons, r.len, hl], ⟨W1.ρ ++ [x], W1.F⟩, st1 ++ [.ins c []], .ref st1.length :: l, gc, .cons (.ref hat) (r.mono le), ?_⟩
  have hlen : W1.ρ.length = st1.length := g.len
  -- what is cut back
  have back : ∀ {W' st' H'}, Step ⟨W1.ρ ++ [x], W1.F⟩ (st1 ++ [.ins c []]) (upd (upd H1 dx (.own x)) x (.ins (G.ca c) dx [])) W' st' H' → Good G W' st' H' → ((st'.take st1.length).all fun c => noRefs st1.length c.items) = true →
      Step W1 st1 H1 ⟨W'.ρ.take st1.length, W'.F⟩ (st'.take st1.length) H' ∧ Good G ⟨W'.ρ.take st1.length, W'.F⟩ (st'.take st1.length) H' ∧ W'.ρ[st1.length]? = some x ∧ ((st'[st1.length]?).any Cell.live = true → ¬ LiveAt ⟨W'.ρ.take st1.length, W'.F⟩ (st'.take st1.length) x) := fun {W' st' H'} s' g' hn => by
    obtain ⟨g2, lv2⟩ := g'.cut hn
    obtain ⟨more, hρ⟩ := s'.le.pre
    have st_ := sc.trans s'
    have et : W'.ρ.take st1.length = W1.ρ := by rw [hρ, ← hlen, List.append_assoc, List.take_left]
    refine ⟨⟨⟨⟨[], by rw [et]; simp⟩, st_.le.F⟩, st_.fr, st_.there, st_.newF, fun b hb => ?_⟩, g2, s'.le.at hat, fun hc lx2 => ?_⟩
    · obtain ⟨m, hm, e1, c', e2, lc⟩ := lv2 b hb
      exact st_.newL b ⟨m, c', e1, e2, lc⟩
    · obtain ⟨m, hm, e1, c', e2, lc⟩ := lv2 x lx2
      cases e3 : st'[st1.length]? with
      | none => rw [e3] at hc; simp at hc
      | some d =>
        rw [e3] at hc
        have := g'.inj m st1.length x c' d e1 (s'.le.at hat) e2 e3 lc (by simpa using hc)
        omega
  unfold newF at q
  cases ef : fm (.ref st1.length :: l) (st1 ++ [.ins c []]) with
  | no => rw [ef] at q; exact q
  | ex d l' st' =>
    rw [ef] at q
    have q : Post G wx σ W1 st1 H1 (fun sv W' st' H' => ∀ v, ResOk G W' st' H' H v sv → Q v H') (if noRefs st1.length l' = true ∧ ((st'.take st1.length).all fun c => noRefs st1.length c.items) = true then .ex d l' (st'.take st1.length) else .no) := q
    by_cases hc : noRefs st1.length l' = true ∧ ((st'.take st1.length).all fun c => noRefs st1.length c.items) = true
    · rw [if_pos hc] at q
      intro W' H' cls dd s' g' xx
      obtain ⟨s3, g3, _, _⟩ := back s' g' hc.2
      refine q _ H' cls dd s3 g3 ⟨xx.1, ?_⟩
      rcases xx.2 with z | ⟨dx', fs, e1, e2, e3, e4⟩
      · exact .inl z
      · exact .inr ⟨dx', fs, e1, e2, e3, e4.cut hc.1⟩
    · rw [if_neg hc] at q; exact q.elim
  | ok sv st' =>
    rw [ef] at q
    intro W' H' s' g' v hv
    cases sv with
    | un => exact q.elim
    | own c => exact q.elim
    | t pv =>
      cases pv <;> first | (exact q.elim) | skip
      cases hv
      refine ⟨rfl, ?_⟩
      have q : Post G wx σ W1 st1 H1 (fun sv W' st' H' => ∀ v, ResOk G W' st' H' H v sv → Q v H') (match st'[st1.length]? with
        | some (.ins d fl) => if d = c ∧ noRefs st1.length fl = true ∧ ((st'.take st1.length).all fun c => noRefs st1.length c.items) = true then .ok (.own (.ins c fl)) (st'.take st1.length) else .no
        | _ => .no) := q
      cases e2 : st'[st1.length]? with
      | none => rw [e2] at q; exact q.elim
      | some cl =>
        rw [e2] at q
        cases cl with
        | ins d fl =>
          have q : Post G wx σ W1 st1 H1 (fun sv W' st' H' => ∀ v, ResOk G W' st' H' H v sv → Q v H') (if d = c ∧ noRefs st1.length fl = true ∧ ((st'.take st1.length).all fun c => noRefs st1.length c.items) = true then .ok (.own (.ins c fl)) (st'.take st1.length) else .no) := q
          by_cases hc : d = c ∧ noRefs st1.length fl = true ∧ ((st'.take st1.length).all fun c => noRefs st1.length c.items) = true
          · rw [if_pos hc] at q
            obtain ⟨s3, g3, hx3, hl3⟩ := back s' g' hc.2.2
            obtain ⟨f1, hp⟩ := g'.cell _ x _ hx3 e2 rfl
            have ed := hc.1
            rw [ed] at hp
            refine q _ H' s3 g3 (.ref x) ⟨x, rfl, CellHp.cut hp hc.2.1, f1, hl3 (by rw [e2]; rfl), s.there x hx⟩
          · rw [if_neg hc] at q; exact q.elim
        | _ => exact q.elim
theorem r_new {c : Nat} (hK : X.K = G.K) (M : Mk G.K (G.ca c) f) (F : FnOk X.prog X.w X.K X.mg X.base (L2.CX X.prog X.w) k f fd ps (spF G (n + 1) fm)) (hr : Room (k + 1) X.A) (hm : X.mg x = some (.ref (G.ca c))) (hb : Binds X.K fd ps []) (tk : Takes X wx) (ha : PA X (e :: es) (tA G wx ms))
    (hg : Gl X x := by rfl) (hdb : (x == ("__debug__" : Str)) = false := by decide) (he : starEach (e :: es) X.env = (false, eval e X.env) :: starEach es X.env := by rfl) (hpl : (backTo pos (starEach es X.env)).any (·.1) = false := by rfl) :
    PE X (.Call (.Name x p) (e :: es) [] pos) (tV G wx (newM c n fm ms)) := by
  refine ⟨fun pins s σ H Q I ⟨H0, W, st, env, o, q⟩ => ?_⟩
  rw [← hK] at M
  refine wpAny_Call_Name_kw (ld_glob I hg hm ?_ hdb)
  refine PySem.W.callWith_K (h₀ := X.base) I.ok.mod.kin M.kp (thn (ha.run pos pins s σ H (fun vs H1 => ∀ x dx, H1 x = none → H1 dx = none → dx ≠ x → spF G (n + 1) fm (.ref x :: vs) (upd (upd H1 dx (.own x)) x (.ins (G.ca c) dx [])) (fun v H2 => v = .non ∧ Q (.ref x) H2) (WE wx σ)) I ⟨H0, W, st, env, o, (Post.split q).mono fun l W1 st1 H1 s1 g1 q1 vs r x dx h1 h2 h3 => ?_⟩) fun us s1 ⟨vs, H1, I1, r, q⟩ => ⟨I1.kIn, ?_⟩) he hpl
  · by_cases hl : l.length = n
    · rw [if_pos hl] at q1
      exact sp_new g1 s1 r hl q1 h1 h2 h3
    · rw [if_neg hl] at q1; exact q1.elim
  · exact run_makeS (E := WE wx) M F hr hb (passAt tk σ) I1 r q
end
/-- a method of a class: where it stands -/
structure Mf (K : PySem.W.Frag) (C : Addr) (mn qual : Str) (st : Stmt) (ps : List Str) (fa : Addr) (fd : FuncData) : Prop where
  fn : FunD K mn qual (defArgs st) (defBody st) (defScope st) [] [] fa fd
  m : Meth K C mn fa
  b : Binds K fd ps []
section
variable {P : Program} {w : World} {K : PySem.W.Frag} {mg : Str → Option Value} {base : Heap} {G : Glo}
theorem ok_ofM {C : Addr} {mn qual : Str} {st : Stmt} {ps N : List Str} {fa : Addr} {fd : FuncData} {n k : Nat} {m : SM} (D : Mf K C mn qual st ps fa fd) (S : FnScope N ps (defScope st)) (hn : ps.length = n)
    (d : ∀ (cdv : Value) (A : Around) (outer : List Env) (s : Shared) (H : Hp) (E : XK), Room k (A.deeper (PyProof.Rows.envOfC qual (defScope st) s.heap.objs.size fa cdv)) →
      PSs (cxOf (L2.CX P w) P w K mg base N qual (defScope st) fa cdv A outer s H E) (defBody st) (tS G (wxE E) m)) : FnOk P w K mg base (L2.CX P w) (k + 1) fa fd ps (spF G n (runF N.length m)) :=
  D.fn.ok S (fun vs H Q E h => by rw [h.1, hn]) fun cdv A outer s H vs Q E hr h => ⟨_, d cdv A outer s H E hr, rd_body h⟩
end
end Mi

set_option maxHeartbeats 4000000
namespace L2
open PySem PySem.Spec PyProof.Rows
section
variable {X : Cx} {pins : List (Addr × Obj)} {σ σ0 : St} {H H0 : Hp} {s sI : Shared}
/-- what a suite held is known from now on -/
theorem Inv.track {a : Addr} {cls : Value} {d : Option Addr} {oe : Obj} {vs : Array Value} (J : Inv X pins σ0 H0 sI) (n : sI.heap.get? a = none) (hex : X.ex = []) (I : Inv X pins σ H s)
    (he : s.heap.get? a = some oe) (hz : Zc cls d oe) (hd : oe.data = .fields vs) (ha : H a = none) : Inv X pins σ (upd H a (Mi.exvO a cls d)) s := by
  have ne : ∀ b o, sI.heap.get? b = some o → b ≠ a := fun b o e z => by rw [z, n] at e; cases e
  have n0 : X.s_0.heap.get? a = none := by
    cases e : X.s_0.heap.get? a with
    | none => rfl
    | some o =>
      obtain ⟨o', e'⟩ := J.base.there a o e (by rw [hex]; exact fun z => nomatch z)
      rw [n] at e'; cases e'
  have ne0 : ∀ b o, X.s_0.heap.get? b = some o → b ≠ a := fun b o e z => by rw [z, n0] at e; cases e
  have neS : ∀ b o, H b = some o → b ≠ a := fun b o e z => by rw [z, ha] at e; cases e
  have neL : X.env.locals ≠ a := by
    obtain ⟨m, ⟨o, es, ep, ho, r⟩, _⟩ := J.loc
    exact ne _ _ ho
  have neC : ∀ x c, X.env.cells.lookup x = some c → c ≠ a := fun x c e => by
    obtain ⟨v, o, ho, _⟩ := J.cell x c e
    exact ne _ _ ho
  refine ⟨I.ok, I.os, I.bare, ⟨I.base.keep, I.base.slot, fun b o e n hq => ?_, I.base.there, fun b xs e => ?_, fun b o u e => ?_, fun b ps e => ?_⟩, I.loc, I.cell, ?_, fun x c e => ?_, fun p hp => ?_, fun b u e => ?_, I.len⟩
  · rw [upd_ne (ne0 b o e)]; exact I.base.free b o e n hq
  · have q := I.base.tups b xs e
    rw [upd_ne (neS _ _ q)]; exact q
  · have q := I.base.frzs b o u e
    rw [upd_ne (neS _ _ q)]; exact q
  · obtain ⟨m, q⟩ := I.base.tbls b ps e
    exact ⟨m, by rw [upd_ne (neS _ _ q)]; exact q⟩
  · rw [upd_ne neL]; exact I.free
  · rw [upd_ne (neC x c e)]; exact I.freeC x c e
  · obtain ⟨e, n, q⟩ := I.pin p hp
    have hp' := (J.pin p hp).1
    exact ⟨e, by rw [upd_ne (ne _ _ hp')]; exact n, q⟩
  · by_cases hb : b = a
    · subst hb
      rw [upd_same] at e
      cases e
      exact Mi.exvO_ok he hz hd
    · rw [upd_ne hb] at e
      exact (I.hok b u e).stay (fun c v hc q => q) (fun c q => by rw [upd_ne (neS _ _ q)]; exact q) fun c xs q => by rw [upd_ne (neS _ _ q)]; exact q
theorem Inv.unsuiteP {a : Addr} {q : Addr × Obj} {pn' : List (Addr × Obj)} (I : Inv (X.suite a (q :: (X.pn ++ pins))) pn' σ H s) (ok : X.Ok) : Inv X (q :: pins) σ H s :=
  ⟨ok, I.os, I.bare, I.base, I.loc, I.cell, I.free, I.freeC, fun p hp => I.pin p (by
    rcases List.mem_append.mp hp with z | z
    · exact List.mem_append_left _ (List.mem_cons_of_mem _ (List.mem_append_left _ z))
    · rcases List.mem_cons.mp z with z | z
      · subst z; exact List.mem_append_left _ List.mem_cons_self
      · exact List.mem_append_left _ (List.mem_cons_of_mem _ (List.mem_append_right _ z))), I.hok, I.len⟩
theorem Inv.unpinQ {q : Addr × Obj} (I : Inv X (q :: pins) σ H s) : Inv X pins σ H s := I.pins_of fun r hr => I.pin r (List.mem_append_right _ (List.mem_cons_of_mem _ hr))
end
/-- one clause: its class, its name's slot, its suite -/
structure Hdl where
  c : Value
  ix : Option Nat
  ts : Addr → Value → Option Addr → TS
def putS (i : Option Nat) (a : Addr) (σ : St) : St := match i with
  | none => σ
  | some i => σ.set i (some (.ref a))
def delS (i : Option Nat) (σ : St) : St := match i with
  | none => σ
  | some i => σ.set i none
def endD (i : Option Nat) (a : Addr) (cls : Value) (d : Option Addr) (D : Ends) : Ends where
  nx := fun σ H => H a = none → D.nx (delS i σ) (upd H a (Mi.exvO a cls d))
  rt := fun v H => H a = none → D.rt v (upd H a (Mi.exvO a cls d))
  bk := fun σ H => H a = none → D.bk (delS i σ) (upd H a (Mi.exvO a cls d))
  ct := fun σ H => H a = none → D.ct (delS i σ) (upd H a (Mi.exvO a cls d))
def wMix (K : PySem.W.Frag) (Wout : WX) (D : Ends) : List Hdl → WX
  | [] => Wout
  | h :: r => fun cls d σ H => ∃ b, PySem.W.exmOne K cls h.c = some b ∧ (b = true → ∀ a, H a = none → h.ts a cls d (endD h.ix a cls d D) (putS h.ix a σ) H) ∧ (b = false → wMix K Wout D r cls d σ H)
def nmOk (X : Cx) (i : Option Nat) (n : Option Str) : Prop := match i, n with
  | none, none => True
  | some i, some n => X.N.Nodup ∧ X.N[i]? = some n ∧ X.env.kindOf n = some .local
  | _, _ => False
inductive HdlsOk (X : Cx) : List ExceptHandler → List Hdl → Prop
  | nil : HdlsOk X [] []
  | cons {x : Str} {h : Hdl} {n : Option Str} {b₀ : Stmt} {suite : List Stmt} {np pos' : Pos} {hds : List ExceptHandler} {l : List Hdl} (hc : Names X x h.c) (hn : nmOk X h.ix n)
      (hsu : ∀ (a : Addr) (oe : Obj) (cls : Value) (d : Option Addr) (pn : List (Addr × Obj)), Zc cls d oe → (∃ vs, oe.data = .fields vs) → PSs (X.suite a ((a, oe) :: pn)) (b₀ :: suite) (h.ts a cls d)) (r : HdlsOk X hds l) :
      HdlsOk X (.ExceptHandler (some (.Name x np)) n (b₀ :: suite) pos' :: hds) (h :: l)
section
variable {X : Cx} {body : List Stmt} {h₀ : ExceptHandler} {hds : List ExceptHandler} {l : List Hdl} {pos : Pos} {tb : WX → TS} {Wout : WX}
theorem ps_try_mix (hex : X.ex = []) (hs : X.stack = X.env :: X.outer) (hf : X.env.frame = some X.env.locals) (tk : Takes X Wout)
    (hb : ∀ (W : WX) (pn : List (Addr × Obj)) (xe : Value → Shared → Prop), Takes (X.tr pn xe) W → PassesOwn (model X.prog X.w) X.A X.env xe → PSs (X.tr pn xe) body (tb W))
    (hh : HdlsOk X (h₀ :: hds) l) : PS X (.Try body (h₀ :: hds) [] [] pos) (fun D σ H => tb (wMix X.K Wout D l) D σ H) := by
  refine ⟨fun pins s σ H D I h => ?_⟩
  have ok := I.ok
  have hfr : X.A.frames = some (X.env :: X.outer) := by rw [ok.frames, hs]
  refine wpAny_Try_except ?_
  refine wpAny_mono ((hb (wMix X.K Wout D l) (X.pn ++ pins) (fun e s₁ => wpAny (model X.prog X.w) X.A (noteFrame e X.env) (fun _ s₂ => wpAny (model X.prog X.w) X.A (setFlight e none) (fun _ s₃ =>
    wpAny (model X.prog X.w) X.A (handleBy e X.env (h₀ :: hds)) (SP X pins D) X.xe s₃) X.xe s₂) X.xe s₁) (fun u s' xx => ?_) PassesOwn.looking).run [] s σ H D (I.toTry _) h) (fun f s1 hsp => ?_) (fun e s1 he => he)
  · -- the catch
    obtain ⟨a, B, sI, pins', σ', H', cls, d, rfl, J', nb, up, sky, na, os, ag, w⟩ := xx
    have J : Inv X pins σ' H' sI := J'.ofTry ok
    have sky' : Sky B (X.env :: X.outer) a (Zc cls d) X.env.locals s'.heap := by rw [← hs]; exact sky
    show wpAny (model X.prog X.w) X.A (noteFrame (.ref a) X.env) _ _ _
    refine Sky.land Zc.steady hfr hf sky' fun h3 fl3 up3 => ?_
    have J3 : Inv X pins σ' H' { s' with heap := h3 } := J.landed nb fl3.1 (up.trans up3) os ag
    obtain ⟨oe3, vs3, he3, hz3, hd3⟩ := fl3.there
    have notFr : ∀ {h : Heap} {o : Obj} {vs : Array Value}, h.FunFrames B (X.env :: X.outer) → h.get? a = some o → o.data = .fields vs → a ∉ frs (X.env :: X.outer) := fun {h o vs} ff e dd hm => by
      obtain ⟨_, o', e', hnf⟩ := ff.mem hm
      rw [e] at e'; cases e'
      exact hnf _ dd
    have nfr := notFr fl3.2.2.1 he3 hd3
    have nL : a ≠ X.env.locals := fun z => nfr (List.mem_filterMap.mpr ⟨X.env, List.mem_cons_self, by rw [hf, z]⟩)
    have nF : a ∉ X.fs := fun hm => by
      obtain ⟨e, he, q⟩ := List.mem_filterMap.mp hm
      exact nfr (List.mem_filterMap.mpr ⟨e, List.mem_cons_of_mem _ he, q⟩)
    have nI : sI.heap.get? a = none := by
      cases e : sI.heap.get? a with
      | none => rfl
      | some o =>
        have z := nb a o e (by rw [hs]; exact nfr)
        rw [fl3.2.1] at z; cases z
    have S3 := J3.suite he3 hd3 na nL nF
    have go : ∀ {hds' : List ExceptHandler} {l' : List Hdl}, HdlsOk X hds' l' → wMix X.K Wout D l' cls d σ' H' →
        wpAny (model X.prog X.w) X.A (handleBy (.ref a) X.env hds') (SP X pins D) X.xe { s' with heap := h3 } := by
      intro hds' l' hk
      induction hk with
      | nil =>
        intro w
        refine wpAny_handleBy_nil ?_
        obtain ⟨k1, k2, k3, oe, vs, T, oT, ts', he, hz, hd, h1, hr⟩ := id fl3
        unfold PySem.passOn
        refine wpAny_bind (wpAny_field he hd h1 ?_)
        rw [if_neg (show ¬ ((Value.ref T == Value.none) = true) from by simp)]
        have fin : wpAny (model X.prog X.w) X.A (setFlight (.ref a) X.env.frame) (fun _ s4 => wpAny (model X.prog X.w) X.A (throw (.ref a) : Sem Flow) (SP X pins D) X.xe s4) X.xe { s' with heap := h3 } := by
          rw [hf]
          refine HandSPX.setFlight_upZ fl3 fun h4 hh4 up4 => wpAny_throw (tk _ _ ?_)
          exact ⟨a, B, sI, pins, σ', H', cls, d, rfl, J, nb, (up.trans up3).trans up4, .inr (.inr (by rw [hs]; exact hh4)), na, os, ag, w⟩
        first
          | exact wpAny_bind (wpAny_pure (wpAny_bind fin))
          | exact wpAny_bind fin
      | @cons x hd n b₀ suite np pos' hds2 l2 hc hn hsu r ih =>
        intro w
        obtain ⟨b, hb1, hyes, hno⟩ := w
        refine wpAny_handleBy_cons (codeAny_handlers_test ?_) (by intro q; cases q)
        have LT : PySem.W.Looks (model X.prog X.w) h3 (typeOf (.ref a)) cls := fun A Q E s k q => wpAny_typeOf_ref (k _ _ he3) (by rw [hz3.1]; exact q)
        have LM := PySem.W.exm_one (M := model X.prog X.w) (J3.kIn) LT hb1
        have test : ∀ {Q : Value → Shared → Prop} {E : Value → Shared → Prop}, Q hd.c { s' with heap := h3 } → wpAny (model X.prog X.w) (X.A.mark (some (.ref a))) (eval (.Name x np) X.env) Q E { s' with heap := h3 } := fun {Q E} q => by
          obtain ⟨hg, hdbg, hm | ⟨hm, hv, hnn⟩⟩ := hc
          · exact ld_glob (X := X.suite a ((a, oe3) :: (X.pn ++ pins))) S3 hg hm q hdbg
          · exact ld_blt (X := X.suite a ((a, oe3) :: (X.pn ++ pins))) S3 hg hm hv q hnn hdbg
        refine test (LM.here ?_)
        cases b with
        | true =>
          obtain ⟨c, ix, ts⟩ := hd
          cases n with
          | none =>
            cases ix with
            | some i => exact hn.elim
            | none =>
              refine codeAny_handlers_suite ?_
              refine HandSPX.lands_againZ fl3 fun h4 fl4 up4 => ?_
              have J4 : Inv X pins σ' H' { s' with heap := h4 } := J.landed nb fl4.1 ((up.trans up3).trans up4) os ag
              obtain ⟨oe4, vs4, he4, hz4, hd4⟩ := fl4.there
              have S4 := J4.suite he4 hd4 na nL nF
              refine wpAny_mono ((hsu a oe4 cls d (X.pn ++ pins) hz4 ⟨_, hd4⟩).run [] _ _ H' _ S4 (hyes rfl a na)) (fun f s6 hsp => ?_) (fun _ _ z => False.elim z)
              have fin : ∀ {σ6 : St} {H6 : Hp}, Inv (X.suite a ((a, oe4) :: (X.pn ++ pins))) [] σ6 H6 s6 → H6 a = none ∧ Inv X pins σ6 (upd H6 a (Mi.exvO a cls d)) s6 := fun {σ6 H6} S6 => by
                obtain ⟨e6, n6, _⟩ := S6.pin (a, oe4) (List.mem_append_left _ List.mem_cons_self)
                exact ⟨n6, J.track nI hex (S6.unsuite ok) e6 hz4 hd4 n6⟩
              cases f with
              | next =>
                obtain ⟨σ6, H6, S6, q6⟩ := hsp
                obtain ⟨n6, I6⟩ := fin S6
                exact ⟨_, _, I6, q6 n6⟩
              | brk =>
                obtain ⟨σ6, H6, S6, q6⟩ := hsp
                obtain ⟨n6, I6⟩ := fin S6
                exact ⟨_, _, I6, q6 n6⟩
              | cont =>
                obtain ⟨σ6, H6, S6, q6⟩ := hsp
                obtain ⟨n6, I6⟩ := fin S6
                exact ⟨_, _, I6, q6 n6⟩
              | ret u =>
                obtain ⟨v6, σ6, H6, S6, r6, q6⟩ := hsp
                obtain ⟨n6, I6⟩ := fin S6
                exact ⟨_, _, _, I6, r6, q6 n6⟩
          | some n =>
            cases ix with
            | none => exact hn.elim
            | some i =>
              obtain ⟨hN, hi, hln⟩ := hn
              refine codeAny_handlers_suite_as ?_
              refine HandSPX.lands_againZ fl3 fun h4 fl4 up4 => ?_
              have J4 : Inv X pins σ' H' { s' with heap := h4 } := J.landed nb fl4.1 ((up.trans up3).trans up4) os ag
              obtain ⟨oe4, vs4, he4, hz4, hd4⟩ := fl4.there
              have S4 := J4.suite he4 hd4 na nL nF
              refine store_ok (X := X.suite a ((a, oe4) :: (X.pn ++ pins))) (v := .ref a) S4 hN hi (.inl hln) rfl (fun s5 S5 => ?_) (.inr hln)
              refine wpAny_mono ((hsu a oe4 cls d (X.pn ++ pins) hz4 ⟨_, hd4⟩).run [] s5 _ H' _ S5 (hyes rfl a na)) (fun f s6 hsp => ?_) (fun _ _ z => False.elim z)
              have end_ : ∀ {σ6 : St} {H6 : Hp} {Q : Shared → Prop}, Inv (X.suite a ((a, oe4) :: (X.pn ++ pins))) [] σ6 H6 s6 → (H6 a = none → ∀ s7, Inv X pins (σ6.set i none) (upd H6 a (Mi.exvO a cls d)) s7 → Q s7) →
                  wpAny (model X.prog X.w) X.A (do bindName X.env n .none; unbindBehindTheSuite X.env n pos') (fun _ s7 => Q s7) X.xe s6 := fun {σ6 H6 Q} S6 hq => by
                refine gone_ok (S6.unsuiteP ok) hN hi hln fun s7 I7 => ?_
                obtain ⟨e7, n7, _⟩ := I7.pin (a, oe4) (List.mem_append_right _ List.mem_cons_self)
                exact hq n7 s7 (J.track nI hex I7.unpinQ e7 hz4 hd4 n7)
              cases f with
              | next =>
                obtain ⟨σ6, H6, S6, q6⟩ := hsp
                exact end_ S6 fun n7 s7 J7 => ⟨_, _, J7, q6 n7⟩
              | brk =>
                obtain ⟨σ6, H6, S6, q6⟩ := hsp
                exact end_ S6 fun n7 s7 J7 => ⟨_, _, J7, q6 n7⟩
              | cont =>
                obtain ⟨σ6, H6, S6, q6⟩ := hsp
                exact end_ S6 fun n7 s7 J7 => ⟨_, _, J7, q6 n7⟩
              | ret u =>
                obtain ⟨v6, σ6, H6, S6, r6, q6⟩ := hsp
                exact end_ S6 fun n7 s7 J7 => ⟨_, _, _, J7, r6, q6 n7⟩
        | false =>
          show wpAny _ X.A (handleBy (.ref a) X.env hds2) _ _ _
          exact ih (hno rfl)
    exact go hh w
  · cases f with
    | next =>
      obtain ⟨σ', H', J', q⟩ := hsp
      exact wpAny_execs_nil ⟨σ', H', J'.ofTry ok, q⟩
    | brk =>
      obtain ⟨σ', H', J', q⟩ := hsp
      exact ⟨σ', H', J'.ofTry ok, q⟩
    | cont =>
      obtain ⟨σ', H', J', q⟩ := hsp
      exact ⟨σ', H', J'.ofTry ok, q⟩
    | ret u =>
      obtain ⟨v, σ', H', J', r, q⟩ := hsp
      exact ⟨v, σ', H', J'.ofTry ok, r, q⟩
end
end L2

set_option maxHeartbeats 4000000
namespace L2
open PySem PySem.Spec PyProof.Rows
section
variable {X : Cx} {e : Expr} {es : List Expr} {ta : TA} {p p1 p2 pos : Pos} {x : Str}
/-- S.__init__(self, ..), S an own class that inherits ValueError's -/
theorem pe_oinit {S : Addr} {mc : Value} {pl : Sem Bool} (hg : Gl X x) (hm : X.mg x = some (.ref S)) (r : ClX.CRead X.K S mc) (vV : PySem.W.findCls X.K (.ref S) mc "__init__" = some (.val (.builtin "ValueError.__init__"))) (ha : PA X (e :: es) ta)
    (hdb : (x == ("__debug__" : Str)) = false := by decide)
    (hc : eval (.Call (.Attribute (.Name x p1) "__init__" p2) (e :: es) [] pos) X.env = (do
      let ov ← eval (.Name x p1) X.env
      standAt p2.atName
      let (f, first) ← holding [ov] (getMethod ov "__init__" pl)
      callWith pos f first (backTo pos (starEach (e :: es) X.env)) (backToKw pos (keywordEach [] X.env))) := by rfl)
    (he : starEach (e :: es) X.env = (false, eval e X.env) :: starEach es X.env := by rfl) (hpl : (backTo pos (starEach es X.env)).any (·.1) = false := by rfl) :
    PE X (.Call (.Attribute (.Name x p1) "__init__" p2) (e :: es) [] pos) (tVeI X.K ta) := by
  refine ⟨fun pins s σ H Q I h => ?_⟩
  refine PySem.W.methodCall_KW (ld_glob I hg hm ?_ hdb) hc
  refine PySem.W.method_cls (I.tok _).kIn r.ga (PySem.W.cls_value (I.tok _).kIn r.rd vV (by decide +kernel) ?_)
  show wpAny _ _ (callWith pos (Value.builtin "ValueError.__init__") [] (backTo pos (starEach (e :: es) X.env)) []) _ _ _
  refine PyProof.Rows.callWith_method1 (thn (ha.run pos pins _ σ H _ (I.tok _) h) fun us s1 ⟨vs, H1, I1, r1, a, C, ws, ev, hl, T, ea, q⟩ => ?_) he hpl
  subst ev
  cases r1 with
  | @cons _ u0 _ ur ra rw' =>
    obtain rfl : u0 = Value.ref a := ra
    have hlen : ur.length ≤ sizeLine := by
      rw [← Paired.length rw', sizeLine_eq]
      omega
    exact oinit_ok T I1 ea hlen fun s' J => ⟨.non, H1, J, rfl, q⟩
end

/-! ### their __init__ -/
def spI0 (C : Addr) : Sp := fun vs H Q _ => ∃ a, vs = [.ref a] ∧ H a = some (exo a C none) ∧ Q .non H
def spI1 (C : Addr) (f : Str) : Sp := fun vs H Q _ => ∃ a y, vs = [.ref a, y] ∧ H a = some (exo a C none) ∧ ∀ dx, H dx = none → dx ≠ a → Q .non (upd (upd H dx (exd dx [(f, y)])) a (exo a C (some dx)))
section
variable {P : Program} {w : World} {K : PySem.W.Frag} {mg : Str → Option Value} {base : Heap} {CX : CXT}
theorem ok_init0 {qual : Str} {st : Stmt} {ps N : List Str} {fa C : Addr} {fd : FuncData} {k : Nat} {t : Str} (D : FunD K "__init__" qual (defArgs st) (defBody st) (defScope st) [] [] fa fd) (S : FnScope N ps (defScope st)) (hn : ps.length = 1) (T : OexC K C)
    (d : ∀ (cdv : Value) (A : Around) (outer : List Env) (s : Shared) (H : Hp) (E : XK), PSs (cxOf CX P w K mg base N qual (defScope st) fa cdv A outer s H E) (defBody st) (tDrop (tVeI K (tCons (tVar 0) (tCons (tC (.str t)) tNil))))) :
    FnOk P w K mg base CX (k + 1) fa fd ps (spI0 C) :=
  D.ok S (fun vs H Q E ⟨a, e, _⟩ => by rw [e, hn]; rfl) fun cdv A outer s H vs Q E hr ⟨a, e, h1, q⟩ => ⟨_, d cdv A outer s H E, by
    subst e
    exact ⟨.ref a, rfl, a, C, [.str t], rfl, (by show 1 ≤ 1000; decide), T, h1, q⟩⟩
theorem ok_init1 {qual : Str} {st : Stmt} {ps N : List Str} {fa C : Addr} {fd : FuncData} {k : Nat} {t f : Str} (D : FunD K "__init__" qual (defArgs st) (defBody st) (defScope st) [] [] fa fd) (S : FnScope N ps (defScope st)) (hn : ps.length = 2) (T : OexC K C)
    (hno : PySem.W.findIn K (.ref C) f = some none)
    (d : ∀ (cdv : Value) (A : Around) (outer : List Env) (s : Shared) (H : Hp) (E : XK), PSs (cxOf CX P w K mg base N qual (defScope st) fa cdv A outer s H E) (defBody st) (tSeq (tDrop (tVeI K (tCons (tVar 0) (tCons (tC (.str t)) tNil)))) (tOst K f (tVar 0) (tVar 1)))) :
    FnOk P w K mg base CX (k + 1) fa fd ps (spI1 C f) :=
  D.ok S (fun vs H Q E ⟨a, y, e, _⟩ => by rw [e, hn]; rfl) fun cdv A outer s H vs Q E hr ⟨a, y, e, h1, q⟩ => ⟨_, d cdv A outer s H E, by
    subst e
    exact ⟨.ref a, rfl, a, C, [.str t], rfl, (by show 1 ≤ 1000; decide), T, h1, y, rfl, .ref a, rfl, a, C, rfl, T, hno, .inl ⟨h1, q⟩⟩⟩
end
/-! ### made -/
section
variable {X : Cx} {p pos : Pos} {pins : List (Addr × Obj)} {σ : St} {H1 H2 : Hp} {hp hp2 h2 : Heap} {g1 g2 : Array GenState} {d1 d2 : Drawn} {t1 t2 : Nat} {os1 os2 : OsState} {a C : Addr}
theorem mk_end0N (I1 : Inv X pins σ H1 ⟨hp, g1, d1, t1, os1⟩)
    (ha : hp.objs.size ≤ a) (k : ∀ b o, hp.get? b = some o → hp2.get? b = some o) (un : Un (frs X.stack) [] (upd H1 a (exo a C none)) H2 hp2 h2) (hok : HOk X.prog X.w H2 h2) (ho : os2 = os1) (hb : AllBare g2)
    (ea : H2 a = some (exo a C none)) :
    ∃ (t0 : Addr) (G : Heap), Inv X pins σ (del H2 a) ⟨G, g2, d2, t2, os2⟩ ∧ (∀ b o, G.get? b = some o → h2.get? b = some o) ∧ G.get? a = none ∧
      h2.get? a = some ({ cls := .ref C, dict := none, data := .fields #[.ref t0, .none, .none, .none, .bool false, .none] } : Obj) := by
  obtain ⟨t0, hoe⟩ := exo_at hok ea
  have hn : H1 a = none := I1.hok.fresh ha
  obtain ⟨G, g1', g2'⟩ := restrict h2 fun b => decide (b ≠ a)
  have gk : ∀ b, b ≠ a → G.get? b = h2.get? b := fun b hb => g1' b (decide_eq_true hb)
  have ge : G.get? a = none := g2' a (by simp)
  have nha : ∀ {b : Addr} {o : Obj}, hp.get? b = some o → b ≠ a := fun {b o} z => Nat.ne_of_lt (Nat.lt_of_lt_of_le (Heap.lt_size z) ha)
  have up : ∀ {b : Addr}, b ≠ a → H1 b = none → upd H1 a (exo a C none) b = none := fun {b} hb n => by rw [upd_ne hb]; exact n
  have U : Un (frs X.stack) [] H1 (del H2 a) hp G := {
    keep := fun b o z n hf hx => by
      rw [gk b (nha z)]
      exact un.keep b o (k b o z) (up (nha z) n) hf hx
    slot := fun b o z n hf hx => by
      rw [gk b (nha z)]
      exact un.slot b o (k b o z) (up (nha z) n) hf hx
    free := fun b o z n hx => by
      rw [del_ne (nha z)]
      exact un.free b o (k b o z) (up (nha z) n) hx
    there := fun b o z hx => by
      rw [gk b (nha z)]
      exact un.there b o (k b o z) hx
    tups := fun b xs z => by
      rw [del_ne (ne_of_none z hn)]
      exact un.tups b xs (by rw [upd_ne (ne_of_none z hn)]; exact z)
    frzs := fun b o v z => by
      rw [del_ne (ne_of_none z hn)]
      exact un.frzs b o v (by rw [upd_ne (ne_of_none z hn)]; exact z)
    tbls := fun b ps z => by
      rw [del_ne (ne_of_none z hn)]
      exact un.tbls b ps (by rw [upd_ne (ne_of_none z hn)]; exact z) }
  have hok3 : HOk X.prog X.w (del H2 a) G := fun b o z => by
    have hba : b ≠ a := fun e => by
      rw [e, del_same] at z
      cases z
    rw [del_ne hba] at z
    have noa : ∀ {c : Addr}, H2 c = some (.own b) → c ≠ a := fun {c} hc => at_ne ea hc exo_own
    exact (hok b o z).stay (fun c v hc y => by
        have hca : c ≠ a := by
          rcases hc with hc | hc
          · rw [hc]
            exact hba
          · exact noa hc
        rw [gk c hca]
        exact y)
      (fun c hc => by rw [del_ne (noa hc)]; exact hc) (fun c xs hc => by rw [del_ne (at_ne ea hc exo_tup)]; exact hc)
  have J : Inv X pins σ (del H2 a) ⟨G, g2, d2, t2, os2⟩ := I1.call' (ch := []) ho U hok3 hb (fun b z => absurd z (by simp))
  refine ⟨t0, G, J, fun b o z => ?_, ge, hoe⟩
  by_cases hba : b = a
  · rw [hba, ge] at z
    cases z
  · exact (gk b hba).symm.trans z
theorem pmk_oex0 {CX : CXT} {x : Str} {fI : Addr} {k : Nat} {fd : FuncData} {ps : List Str} (T : OexC X.K C) (iC : PySem.W.findIn X.K (.ref C) "__init__" = some (some (.ref fI))) (tI : PySem.W.typeIn X.K (.ref fI) = some (.type "function"))
    (F1 : FnOk X.prog X.w X.K X.mg X.base CX k fI fd ps (spI0 C)) (hr : Room (k + 1) X.A) (hb : Binds X.K fd ps []) (hx : Passes CX X (fun _ _ _ => False)) (hg : Gl X x) (hm : X.mg x = some (.ref C))
    (hdb : (x == ("__debug__" : Str)) = false := by decide) :
    PMk X (.Call (.Name x p) [] [] pos) (fun _ H Q => Q (.ref C) none H) := by
  intro pins s σ H Q I h
  obtain ⟨nm, q, N, bs, bm, sn, sub, ab, col, dd, k0, k1, k2, k3, k5, hC, hbm⟩ := T.cls
  refine wpAny_Call_Name_kw (ld_glob I hg hm ?_ hdb)
  refine PySem.W.callWith_K0 I.kIn T.kC ?_
  show wpAny _ _ (call (.ref C) []) _ _ _
  have I1 := I
  obtain ⟨hp, g, dr, tk, os⟩ := s
  have hsz : hp.objs.size ≤ hp.objs.size + 1 := Nat.le_succ _
  have hn : H (hp.objs.size + 1) = none := I1.hok.fresh hsz
  have kk : ∀ b o, hp.get? b = some o → ((hp.push (PySem.W.kdv_tup [])).push (PySem.HandSPX.excO C hp.objs.size)).get? b = some o := fun b o e => Heap.get?_push_of_some _ (Heap.get?_push_of_some _ e)
  have hget : ((hp.push (PySem.W.kdv_tup [])).push (PySem.HandSPX.excO C hp.objs.size)).get? (hp.objs.size + 1) = some (PySem.HandSPX.excO C hp.objs.size) := by heap_get
  have I2 : Inv X pins σ (upd H (hp.objs.size + 1) (exo (hp.objs.size + 1) C none)) ⟨(hp.push (PySem.W.kdv_tup [])).push (PySem.HandSPX.excO C hp.objs.size), g, dr, tk, os⟩ :=
    I1.laid (t' := tk) (a := hp.objs.size + 1) (o := exo (hp.objs.size + 1) C none) (h' := (hp.push (PySem.W.kdv_tup [])).push (PySem.HandSPX.excO C hp.objs.size)) kk hsz (exo_ok hget)
  have hq : spI0 C [V.ref (hp.objs.size + 1)] (upd H (hp.objs.size + 1) (exo (hp.objs.size + 1) C none)) (fun v H2 => v = .non ∧ H2 (hp.objs.size + 1) = some (exo (hp.objs.size + 1) C none) ∧ Q (.ref C) none (del H2 (hp.objs.size + 1))) (fun _ _ _ => False) :=
    ⟨_, rfl, upd_same, rfl, upd_same, by
      have e : del (upd H (hp.objs.size + 1) (exo (hp.objs.size + 1) C none)) (hp.objs.size + 1) = H := by
        funext b
        by_cases hb : b = hp.objs.size + 1
        · rw [hb, del_same, hn]
        · rw [del_ne hb, upd_ne hb]
      rw [e]; exact h⟩
  have r2 : Vals [V.ref (hp.objs.size + 1)] [Value.ref (hp.objs.size + 1)] := .cons rfl .nil
  have hl : ([Value.ref (hp.objs.size + 1)] ++ []).length = ps.length := by
    have e := F1.len _ _ _ _ hq
    simpa using e
  refine wpAny_call (PySem.HandSPX.call_own F.excBase_ValueError (fun Y => PySem.HandSPX.refsVE_contains Y bm hbm) (I1.kIn _ _ hC) (PySem.W.looks_findIn I1.kIn iC) (fun self => PySem.W.bind_fn I1.kIn self tI) (by rw [sizeLine_eq]; exact Nat.zero_le _)
    (codeAny_mono (F1.run _ X.stack _ _ ⟨[Value.ref (hp.objs.size + 1)], []⟩ [Value.ref (hp.objs.size + 1)] _ _ (fun _ _ _ => False) (hr.make C [] []) (I2.env0.make C [] []) (by have := hb _ [Value.ref (hp.objs.size + 1)] I2.kIn hl; simpa using this) r2 hq) fun r s' hq' => ?_))
  cases r with
  | error er => exact hx pins σ _ _ er s' I2 hq'
  | ok fl =>
    cases fl with
    | ret u =>
      obtain ⟨v, H2, os2, bare2, un2, hok2, rv, ev, ea, q2⟩ := hq'
      subst ev
      obtain ⟨h2, g2, d2, t2, os'⟩ := s'
      obtain ⟨t0, G, J, kG, ge, hoe⟩ := mk_end0N (d2 := d2) (t2 := t2) I1 hsz kk un2 hok2 os2 bare2 ea
      exact ⟨rv, hp.objs.size + 1, _, _, ⟨G, g2, d2, t2, os'⟩, _, .ref C, none, rfl, J, kG, ge, hoe, ⟨rfl, rfl⟩, rfl, rfl, del_same, rfl, bare2, raises_own T.exC T.tyC, q2⟩
    | next => exact False.elim hq'
    | brk => exact False.elim hq'
    | cont => exact False.elim hq'
/-- C() as a value -/
theorem pe_oex0 {CX : CXT} {x : Str} {fI : Addr} {k : Nat} {fd : FuncData} {ps : List Str} (T : OexC X.K C) (iC : PySem.W.findIn X.K (.ref C) "__init__" = some (some (.ref fI))) (tI : PySem.W.typeIn X.K (.ref fI) = some (.type "function"))
    (F1 : FnOk X.prog X.w X.K X.mg X.base CX k fI fd ps (spI0 C)) (hr : Room (k + 1) X.A) (hb : Binds X.K fd ps []) (hx : Passes CX X (fun _ _ _ => False)) (hg : Gl X x) (hm : X.mg x = some (.ref C))
    (hdb : (x == ("__debug__" : Str)) = false := by decide) :
    PE X (.Call (.Name x p) [] [] pos) (fun _ H Q => ∀ a, H a = none → Q (.ref a) (upd H a (Mi.exvO a (.ref C) none))) := by
  refine ⟨fun pins s σ H Q I h => ?_⟩
  obtain ⟨nm, q, N, bs, bm, sn, sub, ab, col, dd, k0, k1, k2, k3, k5, hC, hbm⟩ := T.cls
  refine wpAny_Call_Name_kw (ld_glob I hg hm ?_ hdb)
  refine PySem.W.callWith_K0 I.kIn T.kC ?_
  show wpAny _ _ (call (.ref C) []) _ _ _
  have I1 := I
  obtain ⟨hp, g, dr, tk, os⟩ := s
  have hsz : hp.objs.size ≤ hp.objs.size + 1 := Nat.le_succ _
  have hn : H (hp.objs.size + 1) = none := I1.hok.fresh hsz
  have kk : ∀ b o, hp.get? b = some o → ((hp.push (PySem.W.kdv_tup [])).push (PySem.HandSPX.excO C hp.objs.size)).get? b = some o := fun b o e => Heap.get?_push_of_some _ (Heap.get?_push_of_some _ e)
  have hget : ((hp.push (PySem.W.kdv_tup [])).push (PySem.HandSPX.excO C hp.objs.size)).get? (hp.objs.size + 1) = some (PySem.HandSPX.excO C hp.objs.size) := by heap_get
  have I2 : Inv X pins σ (upd H (hp.objs.size + 1) (exo (hp.objs.size + 1) C none)) ⟨(hp.push (PySem.W.kdv_tup [])).push (PySem.HandSPX.excO C hp.objs.size), g, dr, tk, os⟩ :=
    I1.laid (t' := tk) (a := hp.objs.size + 1) (o := exo (hp.objs.size + 1) C none) (h' := (hp.push (PySem.W.kdv_tup [])).push (PySem.HandSPX.excO C hp.objs.size)) kk hsz (exo_ok hget)
  have hq : spI0 C [V.ref (hp.objs.size + 1)] (upd H (hp.objs.size + 1) (exo (hp.objs.size + 1) C none)) (fun v H2 => v = .non ∧ H2 (hp.objs.size + 1) = some (exo (hp.objs.size + 1) C none) ∧ Q (.ref (hp.objs.size + 1)) (upd H2 (hp.objs.size + 1) (Mi.exvO (hp.objs.size + 1) (.ref C) none))) (fun _ _ _ => False) :=
    ⟨_, rfl, upd_same, rfl, upd_same, by
      have e : upd (upd H (hp.objs.size + 1) (exo (hp.objs.size + 1) C none)) (hp.objs.size + 1) (Mi.exvO (hp.objs.size + 1) (.ref C) none) = upd H (hp.objs.size + 1) (Mi.exvO (hp.objs.size + 1) (.ref C) none) := by
        funext b
        by_cases hb : b = hp.objs.size + 1
        · rw [hb, upd_same, upd_same]
        · rw [upd_ne hb, upd_ne hb, upd_ne hb]
      rw [e]; exact h _ hn⟩
  have r2 : Vals [V.ref (hp.objs.size + 1)] [Value.ref (hp.objs.size + 1)] := .cons rfl .nil
  have hl : ([Value.ref (hp.objs.size + 1)] ++ []).length = ps.length := by
    have e := F1.len _ _ _ _ hq
    simpa using e
  refine wpAny_call (PySem.HandSPX.call_own F.excBase_ValueError (fun Y => PySem.HandSPX.refsVE_contains Y bm hbm) (I1.kIn _ _ hC) (PySem.W.looks_findIn I1.kIn iC) (fun self => PySem.W.bind_fn I1.kIn self tI) (by rw [sizeLine_eq]; exact Nat.zero_le _)
    (codeAny_mono (F1.run _ X.stack _ _ ⟨[Value.ref (hp.objs.size + 1)], []⟩ [Value.ref (hp.objs.size + 1)] _ _ (fun _ _ _ => False) (hr.make C [] []) (I2.env0.make C [] []) (by have := hb _ [Value.ref (hp.objs.size + 1)] I2.kIn hl; simpa using this) r2 hq) fun r s' hq' => ?_))
  cases r with
  | error er => exact hx pins σ _ _ er s' I2 hq'
  | ok fl =>
    cases fl with
    | ret u =>
      obtain ⟨v, H', I3, rv, ev, ea, q3⟩ := I2.after hq'
      subst ev
      obtain ⟨t0, hoe⟩ := exo_at I3.hok ea
      refine ⟨rv, V.ref (hp.objs.size + 1), _, ?_, rfl, q3⟩
      obtain ⟨h2, g2, d2, t2, os'⟩ := s'
      exact I3.write (t' := t2) (x := hp.objs.size + 1) (e := hp.objs.size + 1) (o := Mi.exvO (hp.objs.size + 1) (.ref C) none) (h' := h2) (by rw [ea]; exact True.intro) (.inl rfl) (fun _ _ _ z => z) ⟨_, hoe⟩ (Mi.exvO_ok hoe ⟨rfl, rfl⟩ rfl)
    | next => exact False.elim hq'
    | brk => exact False.elim hq'
    | cont => exact False.elim hq'
end
end L2

namespace Mi
open PySem L2
/-! ### the exception at hand -/
abbrev Glo.at (G : Glo) (a : Addr) (cls : Value) (d : Option Addr) : Glo := ⟨G.K, G.ca, G.cf, some (a, cls, d)⟩
section
variable {K : PySem.W.Frag} {ca : Nat → Addr} {cf : Nat → List Str} {h h' : Option (Addr × Value × Option Addr)} {W W' : Wd} {st : Store} {H H0 : Hp} {σ : L2.St} {env : Ev}
mutual
theorem Rep.re (he : ∀ a cls d, EAt h W.F a cls d → EAt h' W.F a cls d) : ∀ {v : V} {p : PV}, Rep ⟨K, ca, cf, h⟩ W v p → Rep ⟨K, ca, cf, h'⟩ W v p
  | _, _, .non => .non
  | _, _, .bl b => .bl b
  | _, _, .int i => .int i
  | _, _, .str s => .str s
  | _, _, .tup h r => .tup h (RepL.re he r)
  | _, _, .lst h r => .lst h (RepL.re he r)
  | _, _, .rd h r => .rd h (RepL.re he r)
  | _, _, .obj h e r => .obj h e (RepL.re he r)
  | _, _, .dct h e r => .dct h e (RepL.re he r)
  | _, _, .exv0 h => .exv0 (he _ _ _ h)
  | _, _, .exv1 h k e r => .exv1 (he _ _ _ h) k e (RepL.re he r)
  | _, _, .ref h => .ref h
theorem RepL.re (he : ∀ a cls d, EAt h W.F a cls d → EAt h' W.F a cls d) : ∀ {vs : List V} {l : List PV}, RepL ⟨K, ca, cf, h⟩ W vs l → RepL ⟨K, ca, cf, h'⟩ W vs l
  | _, _, .nil => .nil
  | _, _, .cons h r => .cons (Rep.re he h) (RepL.re he r)
end
variable (he : ∀ a cls d, EAt h W.F a cls d → EAt h' W.F a cls d)
include he
theorem CellHp.re {a : Addr} {c : Cell} (x : CellHp ⟨K, ca, cf, h⟩ W H a c) : CellHp ⟨K, ca, cf, h'⟩ W H a c := by
  cases c with
  | dead => exact x
  | lst l => obtain ⟨vs, e, r⟩ := x; exact ⟨vs, e, RepL.re he r⟩
  | ins c l => obtain ⟨dx, fs, e, n, r⟩ := x; exact ⟨dx, fs, e, n, RepL.re he r⟩
  | dct ks l => obtain ⟨kvs, e, n, r⟩ := x; exact ⟨kvs, e, n, RepL.re he r⟩
theorem Good.re (g : Good ⟨K, ca, cf, h⟩ W st H) : Good ⟨K, ca, cf, h'⟩ W st H :=
  ⟨g.sub, g.len, fun n a c h1 h2 l => ⟨(g.cell n a c h1 h2 l).1, CellHp.re he (g.cell n a c h1 h2 l).2⟩, g.inj⟩
theorem OwnAt.re {a : Addr} {c : Cell} (o : OwnAt ⟨K, ca, cf, h⟩ W st H H0 a c) : OwnAt ⟨K, ca, cf, h'⟩ W st H H0 a c := ⟨CellHp.re he o.ob, o.fr, o.lv, o.nw⟩
theorem SlotOk.re {v : Option V} {sv : SV} (o : SlotOk ⟨K, ca, cf, h⟩ W st H H0 v sv) : SlotOk ⟨K, ca, cf, h'⟩ W st H H0 v sv := by
  cases sv with
  | un => trivial
  | t p => obtain ⟨x, e, r⟩ := o; exact ⟨x, e, Rep.re he r⟩
  | own l => obtain ⟨a, e, r⟩ := o; exact ⟨a, e, OwnAt.re he r⟩
theorem SOk.re (o : SOk ⟨K, ca, cf, h⟩ H0 W st H σ env) : SOk ⟨K, ca, cf, h'⟩ H0 W st H σ env :=
  ⟨Good.re he o.g, o.e.len, fun i sv z => let ⟨v, e, q⟩ := o.e.at_ i sv z; ⟨v, e, SlotOk.re he q⟩, o.e.dis⟩
theorem ResOk.re {v : V} {sv : SV} (o : ResOk ⟨K, ca, cf, h⟩ W st H H0 v sv) : ResOk ⟨K, ca, cf, h'⟩ W st H H0 v sv := by
  cases sv with
  | un => exact o
  | t p => exact Rep.re he o
  | own c => obtain ⟨a, e, r⟩ := o; exact ⟨a, e, OwnAt.re he r⟩
end
section
variable {G : Glo} {wx : WX} {W W' W1 W2 : Wd} {st st' st1 st2 : Store} {H H' H0 H1 H2 Hs : Hp} {σ : L2.St} {env : Ev} {D : Ends} {B : Bs}
/-- a new object that is frozen at once -/
theorem Good.addF (g : Good G W st H) {p : Addr} (o : HO) (hp : H p = none) : Good G ⟨W.ρ, upd W.F p o⟩ st (upd H p o) ∧ Step W st H ⟨W.ρ, upd W.F p o⟩ st (upd H p o) := by
  obtain ⟨g1, s1⟩ := g.junk (o := o) hp
  have hf : W.F p = none := g.sub.free hp
  have hl : ¬ LiveAt W st p := fun z => (live_some g z).1 hp
  obtain ⟨g2, le, ne⟩ := g1.freeze (p := p) (o := o) upd_same hf hl
  refine ⟨g2, ⟨le, s1.fr, s1.there, fun b h1 h2 h3 => ?_, fun b h1 => .inl h1⟩⟩
  have : b ≠ p := fun z => h2 (by rw [z]; exact hp)
  show upd W.F p o b = none
  rw [upd_ne this]; exact h1
theorem hand_out {a : Addr} {cls : Value} {d : Option Addr} (g : Good (G.at a cls d) W st H) (ha : H a = none) :
    Step W st H ⟨W.ρ, upd W.F a (exvO a cls d)⟩ st (upd H a (exvO a cls d)) ∧ (∀ {σ env}, SOk (G.at a cls d) H0 W st H σ env → SOk G H0 ⟨W.ρ, upd W.F a (exvO a cls d)⟩ st (upd H a (exvO a cls d)) σ env) ∧
      (∀ {v sv}, ResOk (G.at a cls d) W st H H0 v sv → ResOk G ⟨W.ρ, upd W.F a (exvO a cls d)⟩ st (upd H a (exvO a cls d)) H0 v sv) ∧ Good G ⟨W.ρ, upd W.F a (exvO a cls d)⟩ st (upd H a (exvO a cls d)) := by
  obtain ⟨g2, s2⟩ := g.addF (exvO a cls d) ha
  have he : ∀ b c e, EAt (some (a, cls, d)) (upd W.F a (exvO a cls d)) b c e → EAt G.hand (upd W.F a (exvO a cls d)) b c e := fun b c e z => by
    rcases z with z | z
    · exact .inl z
    · cases z; exact .inl upd_same
  refine ⟨s2, fun {σ env} o => SOk.re (h' := G.hand) he (o.step s2 g2), fun {v sv} r => ?_, Good.re (h' := G.hand) he g2⟩
  refine ResOk.re (h' := G.hand) he ?_
  cases sv with
  | un => exact r
  | t p => exact Rep.mono s2.le r
  | own c => obtain ⟨b, e, o⟩ := r; exact ⟨b, e, o.step s2⟩
theorem RepL.hd {a : Addr} {cls : Value} {d : Option Addr} {vs : List V} {l : List PV} (hG : G.hand = none) (r : RepL G W vs l) : RepL (G.at a cls d) W vs l :=
  RepL.re (h := G.hand) (h' := some (a, cls, d)) (fun b c e z => z.elim .inl fun z => by rw [hG] at z; cases z) r
theorem hand_in (hG : G.hand = none) {a : Addr} {cls : Value} {d : Option Addr} (o : SOk G H0 W st H σ env) : SOk (G.at a cls d) H0 W st H σ env :=
  SOk.re (h := G.hand) (h' := some (a, cls, d)) (fun b c e z => z.elim .inl fun z => by rw [hG] at z; cases z) o
/-! ### clauses -/
structure HdM where
  cs : Nat → Option Bool
  ix : Option Nat
  m : SM
def putM (i : Option Nat) (p : PV) (env : Ev) : Ev := match i with
  | none => env
  | some i => env.set i (.t p)
def delM (i : Option Nat) (env : Ev) : Ev := match i with
  | none => env
  | some i => env.set i .un
def delR (i : Option Nat) : Rs → Rs
  | .nx env st => .nx (delM i env) st
  | .rt sv st => .rt sv st
  | .bk env st => .bk (delM i env) st
  | .ct env st => .ct (delM i env) st
  | _ => .no
def catchS : List HdM → Nat → List PV → SM
  | [], c, l => fun env st => .ex c l env st
  | h :: r, c, l => fun env st => match h.cs c with
    | none => .no
    | some false => catchS r c l env st
    | some true => delR h.ix (h.m (putM h.ix (.exv c l) env) st)
def tryS (m : SM) (hs : List HdM) : SM := fun env st => match m env st with
  | .ex c l env' st' => catchS hs c l env' st'
  | r => r
inductive HdMs (X : Cx) (G : Glo) : List ExceptHandler → List HdM → List Hdl → Prop
  | nil : HdMs X G [] [] []
  | cons {x : Str} {c : Value} {h : HdM} {n : Option Str} {b₀ : Stmt} {suite : List Stmt} {np pos' : Pos} {hds : List ExceptHandler} {lm : List HdM} {l : List Hdl} (hc : Names X x c) (hn : nmOk X h.ix n)
      (hcs : ∀ k b, h.cs k = some b → PySem.W.exmOne X.K (.ref (G.ca k)) c = some b)
      (hsu : ∀ (a : Addr) (oe : Obj) (cls : Value) (d : Option Addr) (pn : List (Addr × Obj)), Zc cls d oe → (∃ vs, oe.data = .fields vs) → PSs (X.suite a ((a, oe) :: pn)) (b₀ :: suite) (tS (G.at a cls d) (fun _ _ _ _ => False) h.m)) (r : HdMs X G hds lm l) :
      HdMs X G (.ExceptHandler (some (.Name x np)) n (b₀ :: suite) pos' :: hds) (h :: lm) (⟨c, h.ix, fun a cls d => tS (G.at a cls d) (fun _ _ _ _ => False) h.m⟩ :: l)
variable {X : Cx}
theorem HdMs.ok {hds : List ExceptHandler} {lm : List HdM} {l : List Hdl} (h : HdMs X G hds lm l) : HdlsOk X hds l := by
  induction h with
  | nil => exact .nil
  | cons hc hn hcs hsu r ih => exact .cons hc hn hsu ih
theorem SOk.un {i : Nat} (o : SOk G H0 W st H σ env) : SOk G H0 W st H (σ.set i none) (env.set i .un) := by
  refine ⟨o.g, by simp [o.e.len], fun j sv e => ?_, fun j k l m a e1 e2 e3 e4 => ?_⟩
  · by_cases hj : j = i
    · subst hj
      have hlt : j < env.length := by
        have := (List.getElem?_eq_some_iff.mp e).1
        simpa using this
      rw [List.getElem?_set_self hlt] at e
      cases e
      exact ⟨none, by rw [List.getElem?_set_self (by rw [o.e.len]; exact hlt)], trivial⟩
    · rw [List.getElem?_set_ne (Ne.symm hj)] at e ⊢
      exact o.e.at_ j sv e
  · have nj : j ≠ i := fun z => by
      subst z
      have hlt : j < env.length := by
        have := (List.getElem?_eq_some_iff.mp e1).1
        simpa using this
      rw [List.getElem?_set_self hlt] at e1; cases e1
    have nk : k ≠ i := fun z => by
      subst z
      have hlt : k < env.length := by
        have := (List.getElem?_eq_some_iff.mp e2).1
        simpa using this
      rw [List.getElem?_set_self hlt] at e2; cases e2
    rw [List.getElem?_set_ne (Ne.symm nj)] at e1 e3
    rw [List.getElem?_set_ne (Ne.symm nk)] at e2 e4
    exact o.e.dis j k l m a e1 e2 e3 e4
theorem SOk.del {i : Option Nat} (o : SOk G H0 W st H σ env) : SOk G H0 W st H (delS i σ) (delM i env) := by
  cases i with
  | none => exact o
  | some i => exact o.un
theorem SOk.setT {i : Nat} {v : V} {p : PV} (o : SOk G H0 W st H σ env) (r : Rep G W v p) : SOk G H0 W st H (σ.set i (some v)) (env.set i (.t p)) := by
  refine ⟨o.g, by simp [o.e.len], fun j sv e => ?_, fun j k l m a e1 e2 e3 e4 => ?_⟩
  · by_cases hj : j = i
    · subst hj
      have hlt : j < env.length := by
        have := (List.getElem?_eq_some_iff.mp e).1
        simpa using this
      rw [List.getElem?_set_self hlt] at e
      cases e
      exact ⟨some v, by rw [List.getElem?_set_self (by rw [o.e.len]; exact hlt)], v, rfl, r⟩
    · rw [List.getElem?_set_ne (Ne.symm hj)] at e ⊢
      exact o.e.at_ j sv e
  · have nj : j ≠ i := fun z => by
      subst z
      have hlt : j < env.length := by
        have := (List.getElem?_eq_some_iff.mp e1).1
        simpa using this
      rw [List.getElem?_set_self hlt] at e1; cases e1
    have nk : k ≠ i := fun z => by
      subst z
      have hlt : k < env.length := by
        have := (List.getElem?_eq_some_iff.mp e2).1
        simpa using this
      rw [List.getElem?_set_self hlt] at e2; cases e2
    rw [List.getElem?_set_ne (Ne.symm nj)] at e1 e3
    rw [List.getElem?_set_ne (Ne.symm nk)] at e2 e4
    exact o.e.dis j k l m a e1 e2 e3 e4
theorem ExcAt.rep (hG : G.hand = none) {a : Addr} {c : Nat} {l : List PV} {cls : Value} {d : Option Addr} (x : ExcAt G W c l cls d) : Rep (G.at a cls d) W (.ref a) (.exv c l) := by
  obtain ⟨e, x⟩ := x
  subst e
  rcases x with ⟨e1, e2⟩ | ⟨dx, fs, e1, e2, e3, e4⟩
  · subst e1; subst e2; exact .exv0 (.inr rfl)
  · subst e1
    refine .exv1 (.inr rfl) e2 e3 ?_
    exact RepL.hd hG e4
theorem mix_ok (hG : G.hand = none) {hds : List ExceptHandler} {lm : List HdM} {l : List Hdl} (h : HdMs X G hds lm l) {c : Nat} {ps : List PV} {cls : Value} {d : Option Addr} (s : BStep B W st H) (o : SOk G B.H W st H σ env) (x : ExcAt G W c ps cls d)
    (q : PostS G wx B D (catchS lm c ps env st)) : wMix X.K wx D l cls d σ H := by
  induction h with
  | nil => exact q W H σ cls d s o x
  | @cons x1 cv hd n b₀ suite np pos' hds lm l hc hn hcs hsu r ih =>
    unfold catchS at q
    cases e : hd.cs c with
    | none => rw [e] at q; exact q.elim
    | some b =>
      rw [e] at q
      have hex : PySem.W.exmOne X.K cls cv = some b := by rw [x.1]; exact hcs c b e
      refine ⟨b, hex, fun hb a ha => ?_, fun hb => ?_⟩
      · subst hb
        have q' : PostS G wx B D (delR hd.ix (hd.m (putM hd.ix (.exv c ps) env) st)) := q
        have o1 : SOk (G.at a cls d) B.H W st H (putS hd.ix a σ) (putM hd.ix (.exv c ps) env) := by
          have o0 := hand_in hG (a := a) (cls := cls) (d := d) o
          cases hd.ix with
          | none => exact o0
          | some i => exact o0.setT (x.rep hG)
        refine ⟨B, W, st, _, s, o1, ?_⟩
        cases e2 : hd.m (putM hd.ix (.exv c ps) env) st with
        | nx env1 st1 =>
          rw [e2] at q'
          intro W1 H1 σ1 s1 o2 ha1
          obtain ⟨s2, f1, f2, _⟩ := hand_out (G := G) (H0 := B.H) o2.g ha1
          exact q' _ _ _ (s1.trans s2) (f1 o2).del
        | rt sv st1 =>
          rw [e2] at q'
          intro W1 H1 v s1 g2 r2 ha1
          obtain ⟨s2, f1, f2, f3⟩ := hand_out (G := G) (H0 := B.H) g2 ha1
          exact q' _ _ _ (s1.trans s2) f3 (f2 r2)
        | bk env1 st1 =>
          rw [e2] at q'
          intro W1 H1 σ1 s1 o2 ha1
          obtain ⟨s2, f1, f2, _⟩ := hand_out (G := G) (H0 := B.H) o2.g ha1
          exact q' _ _ _ (s1.trans s2) (f1 o2).del
        | ct env1 st1 =>
          rw [e2] at q'
          intro W1 H1 σ1 s1 o2 ha1
          obtain ⟨s2, f1, f2, _⟩ := hand_out (G := G) (H0 := B.H) o2.g ha1
          exact q' _ _ _ (s1.trans s2) (f1 o2).del
        | ex c1 l1 env1 st1 => rw [e2] at q'; exact q'.elim
        | no => rw [e2] at q'; exact q'
      · subst hb; exact ih q
theorem r_try {body : List Stmt} {h₀ : ExceptHandler} {hds : List ExceptHandler} {lm : List HdM} {l : List Hdl} {pos : Pos} {mb : SM} (hG : G.hand = none) (hex : X.ex = []) (hs : X.stack = X.env :: X.outer) (hf : X.env.frame = some X.env.locals) (tk : Takes X wx)
    (hb : ∀ (W : WX) (pn : List (Addr × Obj)) (xe : Value → Shared → Prop), Takes (X.tr pn xe) W → PassesOwn (model X.prog X.w) X.A X.env xe → PSs (X.tr pn xe) body (tS G W mb))
    (hh : HdMs X G (h₀ :: hds) lm l) : PS X (.Try body (h₀ :: hds) [] [] pos) (tS G wx (tryS mb lm)) :=
  (ps_try_mix hex hs hf tk hb hh.ok).weak fun D σ H ⟨B, W, st, env, s, o, q⟩ => by
    refine ⟨B, W, st, env, s, o, ?_⟩
    unfold tryS at q
    cases e : mb env st with
    | nx env1 st1 => rw [e] at q; exact q
    | rt sv st1 => rw [e] at q; exact q
    | bk env1 st1 => rw [e] at q; exact q
    | ct env1 st1 => rw [e] at q; exact q
    | ex c ps env1 st1 => rw [e] at q; exact fun W1 H1 σ1 cls d s1 o1 x => mix_ok hG hh s1 o1 x q
    | no => rw [e] at q; exact q
end
end Mi

set_option maxHeartbeats 4000000
namespace Mi
open PySem L2
/-- what the text says of an own exception class -/
structure ExK (K : PySem.W.Frag) (mg : Str → Option Value) (C : Addr) (x : Str) (fI : Addr) : Prop where
  T : OexC K C
  i : PySem.W.findIn K (.ref C) "__init__" = some (some (.ref fI))
  t : PySem.W.typeIn K (.ref fI) = some (.type "function")
  m : mg x = some (.ref C)
section
variable {G : Glo} {wx : WX} {W W' W1 W2 : Wd} {st st' st1 st2 : Store} {H H' H0 H1 H2 Hs : Hp} {σ : L2.St} {env : Ev} {D : Ends} {B : Bs}
variable {X : Cx} {a b c e o tg iter : Expr} {ma mb mo mi me : Ev → M PV} {m : Ev → M SV} {pos p apos tpos cpos : Pos} {es : List Expr} {ms : Ev → M (List PV)}
variable {x f : Str} {fI : Addr} {k : Nat} {fd : FuncData} {ps : List Str}
def raise0S (c : Nat) : SM := fun env st => .ex c [] env st
def raise1S (c : Nat) (ms : Ev → M (List PV)) : SM := exprS ms fun l env st => match l with
  | [p] => .ex c [p] env st
  | _ => .no
theorem r_raise0 {c : Nat} (E : ExK X.K X.mg (G.ca c) x fI) (F : FnOk X.prog X.w X.K X.mg X.base (L2.CX X.prog X.w) k fI fd ps (spI0 (G.ca c))) (hr : Room (k + 1) X.A) (hb : Binds X.K fd ps []) (tk : Takes X wx) (hc : X.calm = true) (hg : Gl X x := by rfl) (hdb : (x == ("__debug__" : Str)) = false := by decide) :
    PS X (.Raise (some (.Call (.Name x p) [] [] cpos)) none pos) (tS G wx (raise0S c)) :=
  (ps_raise hc tk (pmk_oex0 E.T E.i E.t F hr hb (passes_call (E := fun _ _ _ => False) tk (fun _ _ _ _ z => z.elim)) hg E.m hdb)).weak fun D σ H ⟨B, W, st, env, s, o, q⟩ =>
    q W H σ _ _ s o ⟨rfl, .inl ⟨rfl, rfl⟩⟩
theorem r_raise1 {c : Nat} (E : ExK X.K X.mg (G.ca c) x fI) (F : FnOk X.prog X.w X.K X.mg X.base (L2.CX X.prog X.w) k fI fd ps (spI1 (G.ca c) f)) (hcf : (G.cf c).take 1 = [f]) (hr : Room (k + 1) X.A) (hb : Binds X.K fd ps []) (tk : Takes X wx) (hc : X.calm = true)
    (ha : PA X (e :: es) (tA G wx ms)) (hg : Gl X x := by rfl) (hdb : (x == ("__debug__" : Str)) = false := by decide) (he : starEach (e :: es) X.env = (false, eval e X.env) :: starEach es X.env := by rfl) (hpl : (backTo cpos (starEach es X.env)).any (·.1) = false := by rfl) :
    PS X (.Raise (some (.Call (.Name x p) (e :: es) [] cpos)) none pos) (tS G wx (raise1S c ms)) :=
  (ps_raise hc tk (pmk_oex E.T E.i E.t F hr hb .nil (passes_call (E := fun _ _ _ => False) tk (fun _ _ _ _ z => z.elim)) hg E.m ha hdb he hpl)).weak fun D σ H ⟨B, W, st, env, s, o, q⟩ => by
    refine ⟨B.H, W, st, env, o, (PostS.split s o q).mono fun l W1 st1 H1 s1 g q vs r => ?_⟩
    cases r with
    | nil => exact q.elim
    | @cons v vs p l r rs =>
      cases rs with
      | cons r2 rs => exact q.elim
      | nil =>
        refine ⟨by show 1 ≤ 1000; decide, fun ad had => ⟨ad, v, rfl, upd_same, fun dx hdx hne => ⟨rfl, dx, [(f, v)], upd_same, by rw [upd_ne hne, upd_same], by rw [upd_ne hne] at hdx; exact hdx, ?_⟩⟩⟩
        have h1 : H1 dx = none := by rw [upd_ne hne] at hdx; exact hdx
        have e : upd (del (upd (upd (upd H1 ad (exo ad (G.ca c) none)) dx (exd dx [(f, v)])) ad (exo ad (G.ca c) (some dx))) ad) dx (.xd [(f, v)]) = upd H1 dx (.xd [(f, v)]) := by
          funext b
          by_cases hb : b = dx
          · rw [hb, upd_same, upd_same]
          · rw [upd_ne hb, upd_ne hb]
            by_cases hb2 : b = ad
            · rw [hb2, del_same, had]
            · rw [del_ne hb2, upd_ne hb2, upd_ne hb, upd_ne hb2]
        rw [e]
        obtain ⟨g2, s2⟩ := g.addF (.xd [(f, v)]) h1
        exact q _ _ σ _ _ ((s.trans s1).trans s2) ((o.step s1 g).step s2 g2) ⟨rfl, .inr ⟨dx, [(f, v)], rfl, upd_same, hcf.symm, .cons (r.mono s2.le) .nil⟩⟩
def excM (c : Nat) : Ev → M PV := kp (.exv c [])
theorem r_oex0 {c : Nat} (E : ExK X.K X.mg (G.ca c) x fI) (F : FnOk X.prog X.w X.K X.mg X.base (L2.CX X.prog X.w) k fI fd ps (spI0 (G.ca c))) (hr : Room (k + 1) X.A) (hb : Binds X.K fd ps []) (tk : Takes X wx) (hg : Gl X x := by rfl) (hdb : (x == ("__debug__" : Str)) = false := by decide) :
    PE X (.Call (.Name x p) [] [] pos) (tP G wx (excM c)) :=
  (pe_oex0 E.T E.i E.t F hr hb (passes_call (E := fun _ _ _ => False) tk (fun _ _ _ _ z => z.elim)) hg E.m hdb).weak fun σ H Q ⟨H0, W, st, env, o, q⟩ ad had => by
    obtain ⟨g2, s2⟩ := o.g.addF (exvO ad (.ref (G.ca c)) none) had
    exact q _ _ s2 g2 _ (.exv0 (.inl upd_same))
/-! ### its fields -/
/-- the exception that the suite holds is pinned -/
def HdOk (X : Cx) (G : Glo) : Prop := ∀ a cls d, G.hand = some (a, cls, d) → ∃ oe, (a, oe) ∈ X.pn ∧ Zc cls d oe ∧ ∃ vs, oe.data = .fields vs
theorem hd_none (h : G.hand = none) : HdOk X G := fun a cls d z => by rw [h] at z; cases z
theorem hd_suite {a : Addr} {cls : Value} {d : Option Addr} {oe : Obj} {pn : List (Addr × Obj)} (hz : Zc cls d oe) (hv : ∃ vs, oe.data = .fields vs) : HdOk (X.suite a ((a, oe) :: pn)) (G.at a cls d) := fun a' cls' d' z => by
  have z' : some (a, cls, d) = some (a', cls', d') := z
  cases z'
  exact ⟨oe, List.mem_cons_self, hz, hv⟩
theorem eat_get {pins : List (Addr × Obj)} {s : Shared} {ad : Addr} {cls : Value} {d : Option Addr} (hh : HdOk X G) (I : Inv X pins σ H s) (hF : Same W.F H) (h : EAt G.hand W.F ad cls d) : ∃ oe vs, s.heap.get? ad = some oe ∧ Zc cls d oe ∧ oe.data = .fields vs := by
  rcases h with h | h
  · have x : ObjOk X.prog X.w H s.heap ad (.ext fun h => ∃ (oe : Obj) (vs : Array Value), h.get? ad = some oe ∧ Zc cls d oe ∧ oe.data = .fields vs) := I.hok ad _ (hF _ _ h)
    exact x.1
  · obtain ⟨oe, hm, hz, vs, hv⟩ := hh ad cls d h
    exact ⟨oe, vs, (I.pin _ (List.mem_append_left _ hm)).1, hz, hv⟩
def xfldF (c j : Nat) (p : PV) (st : Store) : Option PV := match p with
  | .exv d l => if d = c then l[j]? else none
  | _ => none
theorem r_xfld {c j : Nat} (hK : X.K = G.K) (hh : HdOk X G) (T : XfC G.K (G.ca c)) (hno : PySem.W.findIn G.K (.ref (G.ca c)) f = some none) (hj : (G.cf c)[j]? = some f) (hnd : (G.cf c).Nodup) (ho : PE X o (tP G wx mo)) (hb : attributeBase o f X.env (eval o X.env) = eval o X.env := by rfl) :
    PE X (.Attribute o f pos) (tP G wx (op1S (xfldF c j) mo)) := by
  refine ⟨fun pins s σ H Q I ⟨H0, W, st, env, o', q⟩ => ?_⟩
  refine attr_of hb (thn (ho.run pins s σ H (fun v H1 => ∃ W1, Same W1.F H1 ∧ ∃ p st1, Rep G W1 v p ∧ ∃ z, xfldF c j p st1 = some z ∧ ∀ v, Rep G W1 v z → Q v H1) I ⟨H0, W, st, env, o', (Post.split q).mono fun p W1 st1 H1 s g q v r => ?_⟩) fun u s1 hh2 => ?_)
  · obtain ⟨z, e1, k⟩ := sget_post g q
    exact ⟨W1, g.sub, p, st1, r, z, e1, k⟩
  · obtain ⟨v, H1, I1, rx, W1, hF, p, st1, r, z, e1, k⟩ := hh2
    cases r with
    | @exv0 ad cc h =>
      have e2 : (if cc = c then ([] : List PV)[j]? else none) = some z := e1
      split at e2
      · cases e2
      · cases e2
    | @exv1 ad dx cc fs l h hx hn r =>
      have e2 : (if cc = c then l[j]? else none) = some z := e1
      by_cases hcc : cc = c
      · rw [if_pos hcc] at e2
        subst hcc
        cases (show u = Value.ref ad from rx)
        obtain ⟨oe, vs, hget, hz, hd⟩ := eat_get hh I1 hF h
        obtain ⟨y, ey, ry⟩ := r.get' e2
        have hx2 : ObjOk X.prog X.w H1 s1.heap dx (.xd fs) := I1.hok dx _ (hF _ _ hx)
        obtain ⟨mA, hns, hr⟩ := hx2
        obtain ⟨od, ho2, hl⟩ := lookIn_ns hns
        have hlk : fs.lookup f = some y := by
          have hjl : j < l.length := (List.getElem?_eq_some_iff.mp e2).1
          exact lookup_at hn ((List.take_sublist _ _).nodup hnd) (by rw [List.getElem?_take, if_pos hjl, hj]) ey
        obtain ⟨w, hu, ru⟩ := RelO.some_of (v := y) (o := mA f) (by rw [← hlk]; exact hr f)
        have J : PySem.W.InstAt s1.heap ad oe (G.ca cc) (some od) := ⟨hget, hz.1, by unfold PySem.W.notCls; rw [hd] <;> rfl, by rw [hz.2]; exact ho2⟩
        rw [← hK] at T hno
        exact HandSPX.exc_get I1.kIn J T.ga T.gg T.exC (PySem.W.findObj_own T.hdC hno rfl (by rw [hl, hu])) (handed_of ru) ⟨y, H1, I1.tok _, ru, k _ ry⟩
      · rw [if_neg hcc] at e2; cases e2
    | _ => cases e1
end
end Mi

set_option maxHeartbeats 4000000
namespace PySem.W
open PySem PySem.Spec PySem.Calls PyProof.Rows
section
variable {prog : Program} {w : World} {A : Around} {E : Value → Shared → Prop} {s : Shared} {K : Frag} {x D : Addr} {ox : Obj} {od : Option Obj}
theorem findObj_dataO {C : Addr} {name : Str} {a g : Value} (hc : (clsIn K C).isSome = true) (ha : findIn K (.ref C) name = some (some a)) (hg : specialIn K a "__get__" = some (some g)) (ht : takesIn K a = some true) : findObj K C od name = some (.bind g a) := by
  obtain ⟨cd, hc⟩ := Option.isSome_iff_exists.mp hc
  unfold findObj
  rw [hc, Option.bind_some, ha, Option.bind_some]
  simp [hg, ht]
theorem kin_classO {Q : Option Value → Shared → Prop} (C : L2.ExcC K D)
    (X : K.In s.heap) (I : InstAt s.heap x ox D od) (h : Q (some (.ref D)) { s with toks := s.toks + 1 }) : wpAny (model prog w) A (getAttr? (.ref x) "__class__") Q E s := by
  have hf : findObj K D od "__class__" = some (.bind (.builtin "getset_descriptor.__get__") (.builtin "object.__class__")) := findObj_dataO (by obtain ⟨cd, hc, _⟩ := any_some C.hd; rw [hc]; rfl) C.ha C.hn C.ht
  obtain ⟨hp, g, d, t, os⟩ := s
  have L0 := I.type (M := model prog w)
  have L1 := looks_findIn (M := model prog w) X C.hg
  have L2 := looks_findIn (M := model prog w) X C.hk
  have L3 := looks_find (M := model prog w) X I hf
  have sub : Looks (model prog w) hp (isInstance (.ref x) (.type "BaseException")) true := L0.andThen (looks_subIn X C.hs)
  have hx0 : (false && onTheHeap (Value.builtin "BaseException.__getattribute__")) = false := rfl
  have hx2 : (Value.builtin "BaseException.__getattribute__" == Value.builtin "object.__getattribute__") = false := by decide +kernel
  have hx1 : (onTheHeap (Value.ref D) && Value.builtin "BaseException.__getattribute__" == Value.builtin "object.__getattribute__") = false := by rw [hx2]; rfl
  unfold getAttr? getAttrBy? getAttrBy
  refine wpAny_bind (wpAny_mkText (wpAny_bind (wpAny_attempt (wpAny_holding (wpAny_bind (L0.at (wpAny_bind (L1.at ?_))))))))
  show wpAny _ _ (if (onTheHeap (Value.ref D) && Value.builtin "BaseException.__getattribute__" == Value.builtin "object.__getattribute__") = true then _ else _) _ _ _
  rw [hx1, if_neg Bool.false_ne_true]
  unfold getAttrByItsOwn hookBefore
  refine wpAny_bind ?_
  rw [if_pos (show onTheHeap (Value.ref D) = true from rfl)]
  refine L2.at ?_
  refine wpAny_bind (wpAny_attempt (wpAny_holding ?_))
  unfold callGetattribute
  rw [hx0, if_neg Bool.false_ne_true]
  unfold boundAndCalled
  rw [PySem.F.excAttr_ValueError.ga.bind (.ref x)]
  refine wpAny_bind (wpAny_pure ?_)
  show wpAny _ _ (call (.builtin "BaseException.__getattribute__") [.ref x, .str "__class__" t]) _ _ _
  refine wpAny_call (codeAny_call_builtin PySem.F.excAttr_ValueError.ga.plain PySem.F.entry_bexc_ga ?_)
  refine @check_slot (model prog w) _ _ ⟨hp, g, d, t + 1, os⟩ "BaseException.__getattribute__" "BaseException" "__getattribute__" (.ref x) [.str "__class__" t] [] _ (by decide +kernel) (by decide +kernel) sub (PySem.F.args_bexc_ga (.ref x) (.str "__class__" t)) ?_
  unfold Builtin.«object.__getattribute__»
  refine wpAny_bind (wpAny_of_eq (a := ((Value.ref x : Value), [Value.str "__class__" t])) (by first | rfl | (simp only [slotArgs]; rfl)) ?_)
  refine wpAny_bind (wpAny_pure (wpAny_bind (L0.at (wpAny_bind (L3.at ?_)))))
  show wpAny _ _ (holding [Value.builtin "object.__class__"] (call (.builtin "getset_descriptor.__get__") [.builtin "object.__class__", .ref x, .ref D]) >>= ret) _ _ _
  refine wpAny_bind (wpAny_holding (wpAny_call (class_get (s := ⟨hp, g, d, t + 1, os⟩) (ox := ox) (od := od) X I C.hm ?_)))
  refine wpAny_pure ?_
  show wpAny _ _ (handedOut (.ref D)) _ _ _
  rw [handedOut_of (v := .ref D) rfl]
  first
    | exact wpAny_pure (wpAny_pure h)
    | exact wpAny_pure h
    | exact wpAny_pure (wpAny_bind (wpAny_pure (wpAny_pure h)))
theorem kitx_excO (C : L2.ExcC K D) : KitX K (.ref x) (.ref D) (fun h => InstAt h x ox D od) where
  ty := fun _ _ _ I => I.type
  it := fun _ _ X _ => by
    obtain ⟨cdD, hcD, _⟩ := any_some C.hd
    unfold clsIn at hcD
    split at hcD
    · rename_i c' d' cd' sl' ho
      intro A' Q' E' s' k q
      unfold isType loadHead
      exact wpAny_bind (wpAny_loadPart (k _ _ (X _ _ ho)) (wpAny_pure q))
    · cases hcD
  ne := fun h tp dd its n sl X htp => by
    obtain ⟨cdD, hcD, _⟩ := any_some C.hd
    refine Bool.eq_false_iff.mpr fun q => ?_
    have e : D = tp := Value.ref.inj (beq_iff_eq.mp q)
    subst e
    unfold clsIn at hcD
    split at hcD
    · rename_i c' d' cd' sl' ho
      have z := (X _ _ ho).symm.trans htp
      cases z
    · cases hcD
  ca := fun X I k => kin_classO C X I k
end
end PySem.W
namespace Mi
open PySem L2
inductive TyK where
  | b (s : String) | x (c : Nat) | o (c : Nat)
  deriving DecidableEq
def tyX (p : PV) (st : Store) : Option TyK := match p with
  | .exv c _ => some (.x c)
  | .obj c _ => some (.o c)
  | .ref n => match st[n]? with
    | some (.ins c _) => some (.o c)
    | some (.lst _) => some (.b "list")
    | some (.dct _ _) => some (.b "dict")
    | _ => none
  | p => (tyN p st).map .b
def TyK.v (G : Glo) : TyK → Value
  | .b s => .type s
  | .x c => .ref (G.ca c)
  | .o c => .ref (G.ca c)
structure InsC (K : PySem.W.Frag) (C : Addr) : Prop where
  cl : Cls K C
  ha : PySem.W.findIn K (.ref C) "__class__" = some (some (.builtin "object.__class__"))
  hn : PySem.W.specialIn K (.builtin "object.__class__") "__get__" = some (some (.builtin "getset_descriptor.__get__"))
  ht : PySem.W.takesIn K (.builtin "object.__class__") = some true
  hm : PySem.W.mroIn K C (.type "object") = some true
def TyK.ok (G : Glo) : TyK → Prop
  | .b _ => True
  | .x c => ExcC G.K (G.ca c)
  | .o c => InsC G.K (G.ca c)
section
variable {G : Glo} {wx : WX} {W W' W1 W2 : Wd} {st st' st1 st2 : Store} {H H' H0 H1 H2 Hs : Hp} {σ : L2.St} {env : Ev} {D : Ends} {B : Bs}
variable {X : Cx} {a b c e o tg iter : Expr} {ma mb mo mi me : Ev → M PV} {m : Ev → M SV} {pos p apos tpos cpos : Pos} {es : List Expr} {ms : Ev → M (List PV)}
theorem kit_ofX {pins : List (Addr × Obj)} {s : Shared} {v : V} {u : Value} {q : PV} {k : TyK} (hK : X.K = G.K) (hh : HdOk X G) (I : Inv X pins σ H s) (rx : RelV v u) (g : Good G W st H) (r : Rep G W v q) (e : tyX q st = some k) (ok : k.ok G) :
    ∃ P : Heap → Prop, PySem.W.KitX X.K u (k.v G) P ∧ P s.heap ∧ u ≠ .builtin "__main__.__loader__#opaque" := by
  have base : ∀ {s' : String}, tyN q st = some s' → k = .b s' → ∃ P : Heap → Prop, PySem.W.KitX X.K u (k.v G) P ∧ P s.heap ∧ u ≠ .builtin "__main__.__loader__#opaque" := fun {s'} e1 e2 => by
    subst e2
    exact kit_of I rx (by rw [hK]; exact tyN_ok g r e1)
  have exc : ∀ {ad : Addr} {c : Nat} {d : Option Addr}, v = .ref ad → k = .x c → EAt G.hand W.F ad (.ref (G.ca c)) d → (∀ dx, d = some dx → ∃ fs, W.F dx = some (.xd fs)) → ∃ P : Heap → Prop, PySem.W.KitX X.K u (k.v G) P ∧ P s.heap ∧ u ≠ .builtin "__main__.__loader__#opaque" := fun {ad c d} e1 e2 h hd => by
    subst e1; subst e2
    cases (show u = Value.ref ad from rx)
    obtain ⟨oe, vs, hget, hz, hdt⟩ := eat_get hh I g.sub h
    have od : ∃ od, PySem.W.InstAt s.heap ad oe (G.ca c) od := by
      cases d with
      | none => exact ⟨none, hget, hz.1, by unfold PySem.W.notCls; rw [hdt] <;> rfl, by rw [hz.2]; trivial⟩
      | some dx =>
        obtain ⟨fs, hx⟩ := hd dx rfl
        have hx2 : ObjOk X.prog X.w H s.heap dx (.xd fs) := I.hok dx _ (g.sub _ _ hx)
        obtain ⟨mA, hns, hr⟩ := hx2
        obtain ⟨od, ho2, hl⟩ := lookIn_ns hns
        exact ⟨some od, hget, hz.1, by unfold PySem.W.notCls; rw [hdt] <;> rfl, by rw [hz.2]; exact ho2⟩
    obtain ⟨od, J⟩ := od
    have ok' : ExcC X.K (G.ca c) := by rw [hK]; exact ok
    exact ⟨_, PySem.W.kitx_excO ok', J, fun z => nomatch z⟩
  have ins : ∀ {ad : Addr} {c : Nat} {dx : Addr} {fs : List (Str × V)}, v = .ref ad → k = .o c → H ad = some (.ins (G.ca c) dx fs) → ∃ P : Heap → Prop, PySem.W.KitX X.K u (k.v G) P ∧ P s.heap ∧ u ≠ .builtin "__main__.__loader__#opaque" := fun {ad c dx fs} e1 e2 h => by
    subst e1; subst e2
    have ok' : InsC X.K (G.ca c) := by rw [hK]; exact ok
    exact kit_of I rx (.base (.ins h ok'.cl ok'.ha ok'.hn ok'.ht ok'.hm))
  cases r with
  | non => cases e; exact base rfl rfl
  | bl b => cases e; exact base rfl rfl
  | int i => cases e; exact base rfl rfl
  | str s => cases e; exact base rfl rfl
  | tup h r => cases e; exact base rfl rfl
  | lst h r => cases e; exact base rfl rfl
  | rd h r => cases e
  | obj h hn r => cases e; exact ins rfl rfl (g.at h)
  | dct h hk r => cases e; exact base rfl rfl
  | exv0 h => cases e; exact exc rfl rfl h (fun dx z => by cases z)
  | exv1 h hx hn r => cases e; exact exc rfl rfl h (fun dx z => by cases z; exact ⟨_, hx⟩)
  | @ref n ad h =>
    have e' : (match st[n]? with | some (.ins c _) => some (TyK.o c) | some (.lst _) => some (.b "list") | some (.dct _ _) => some (.b "dict") | _ => none) = some k := e
    cases e2 : st[n]? with
    | none => rw [e2] at e'; cases e'
    | some cl =>
      rw [e2] at e'
      cases cl with
      | dead => cases e'
      | lst l => cases e'; exact base (by show (match st[n]? with | some (.lst _) => some "list" | some (.dct _ _) => some "dict" | _ => none) = some "list"; rw [e2]) rfl
      | dct ks l => cases e'; exact base (by show (match st[n]? with | some (.lst _) => some "list" | some (.dct _ _) => some "dict" | _ => none) = some "dict"; rw [e2]) rfl
      | ins c l => cases e'; obtain ⟨_, dx, fs, ev, _⟩ := g.cell n ad _ h e2 rfl; exact ins rfl rfl ev
def isxF (tab : TyK → Option Bool) (p : PV) (st : Store) : Option PV := (tyX p st).bind fun k => (tab k).map .bl
def rIsx (G : Glo) (cv : Value) : List V → Hp → VK → Prop := fun xs H Q => ∃ (W : Wd) (st : Store) (v c : V) (p : PV) (k : TyK) (b : Bool), xs = [v, c] ∧ Good G W st H ∧ Rep G W v p ∧ tyX p st = some k ∧ k.ok G ∧ (∀ u, RelV c u → u = cv) ∧ PySem.W.kitOne G.K (k.v G) cv = some b ∧ Q (.bl b) H
theorem call_isx (hK : X.K = G.K) (hh : HdOk X G) {cv : Value} : CallR X (.builtin "isinstance") (rIsx G cv) := by
  intro pins s σ H xs us Q I r h
  obtain ⟨W, st, v, c, p, k, b, rfl, g, rp, e, ok, hc, hk, q⟩ := h
  obtain ⟨u1, u2, rfl, r1, r2⟩ := vals2 r
  have e2 := hc _ r2
  subst e2
  obtain ⟨P, Z, pp, hx⟩ := kit_ofX hK hh I r1 g rp e ok
  exact PySem.W.kia_one Z I.kIn pp (by rw [hK]; exact hk) hx fun tk => ⟨.bl b, H, I.tok tk, rfl, q⟩
def TabOk (G : Glo) (cv : Value) (tab : TyK → Option Bool) : Prop := ∀ k b, tab k = some b → PySem.W.kitOne G.K (k.v G) cv = some b ∧ k.ok G
theorem r_isx {cv : Value} {c : V} {tab : TyK → Option Bool} (hK : X.K = G.K) (hh : HdOk X G) {p1 : Pos} (hm : X.mg "isinstance" = none) (ht : TabOk G cv tab) (hc : ∀ u, RelV c u → u = cv) (hb : PE X b (tC c)) (ha : PE X a (tP G wx ma)) (hg : Gl X "isinstance" := by rfl)
    (he : starEach [a, b] X.env = (false, eval a X.env) :: starEach [b] X.env := by rfl) (he2 : starEach [b] X.env = (false, eval b X.env) :: starEach [] X.env := by rfl) (hpl : (backTo pos (starEach [b] X.env)).any (·.1) = false := by rfl) :
    PE X (.Call (.Name "isinstance" p1) [a, b] [] pos) (tP G wx (op1S (isxF tab) ma)) :=
  (pe_callB (call_isx hK hh (cv := cv)) hg hm (by decide +kernel) (pa_cons ha (pa_cons hb pa_nil he2) he) (by decide) (by decide) he hpl).weak fun σ H Q ⟨H0, W, st, env, o, q⟩ => ⟨H0, W, st, env, o, (Post.split q).mono fun p W1 st1 H1 s g q v r => by
    obtain ⟨z, e1, k⟩ := sget_post g q
    unfold isxF at e1
    simp only [Option.bind_eq_some_iff, Option.map_eq_some_iff] at e1
    obtain ⟨kk, e2, bb, e3, rfl⟩ := e1
    obtain ⟨h1, h2⟩ := ht kk bb e3
    exact ⟨W1, st1, v, c, p, kk, bb, rfl, g, r, e2, h2, hc, h1, k _ (.bl _)⟩⟩
/-! ### a tuple of classes -/
def rIsxT (G : Glo) (us : List Value) : List V → Hp → VK → Prop := fun xs H Q => ∃ (W : Wd) (st : Store) (v : V) (tp : Addr) (cs : List V) (p : PV) (k : TyK) (b : Bool), xs = [v, .ref tp] ∧ H tp = some (.tup cs) ∧ Paired ClsV cs us ∧ Good G W st H ∧ Rep G W v p ∧ tyX p st = some k ∧ k.ok G ∧ PySem.W.kitAny G.K (k.v G) us = some b ∧ Q (.bl b) H
theorem call_isxT (hK : X.K = G.K) (hh : HdOk X G) {ws : List Value} : CallR X (.builtin "isinstance") (rIsxT G ws) := by
  intro pins s σ H xs us Q I r h
  obtain ⟨W, st, x, tp, cs, p, k, b, rfl, hT, kc, g, rp, e, ok, hk, q⟩ := h
  obtain ⟨u1, u2, rfl, r1, r2⟩ := vals2 r
  cases (show u2 = Value.ref tp from r2)
  obtain ⟨P, Z, pp, hx⟩ := kit_ofX hK hh I r1 g rp e ok
  obtain ⟨_, its, rv, o, h1, h2, n, h3⟩ := (show ObjOk X.prog X.w H s.heap tp (.tup cs) from I.hok tp _ hT)
  have e3 := ClsV.all kc rv
  subst e3
  obtain ⟨oc, od, dt, sl⟩ := o
  simp only at h2 h3
  subst h2 h3
  exact PySem.W.kia_tup Z I.kIn pp h1 (by rw [hK]; exact hk) hx fun tk => ⟨.bl b, H, I.tok tk, rfl, q⟩
def TabAny (G : Glo) (us : List Value) (tab : TyK → Option Bool) : Prop := ∀ k b, tab k = some b → PySem.W.kitAny G.K (k.v G) us = some b ∧ k.ok G
def tCs (cs : List V) : TA := fun _ H Q => Q cs H
theorem pa_csN : PA X [] (tCs []) := pa_nil.weak fun σ H Q q => q
theorem pa_csC {c : V} {cs : List V} (h : PE X e (tC c)) (r : PA X es (tCs cs)) (hs : starEach (e :: es) X.env = (false, eval e X.env) :: starEach es X.env := by rfl) : PA X (e :: es) (tCs (c :: cs)) := (pa_cons h r hs).weak fun σ H Q q => q
theorem r_isxT {us : List Value} {cs : List V} {tab : TyK → Option Bool} {x1 : Nat} (hK : X.K = G.K) (hh : HdOk X G) {p1 p2 : Pos} (hm : X.mg "isinstance" = none) (ht : TabAny G us tab) (kc : Paired ClsV cs us) (hl : cs.length ≤ 100) (hb : PA X es (tCs cs)) (ha : PE X a (tP G wx ma)) (hg : Gl X "isinstance" := by rfl)
    (he : starEach [a, .Tuple es x1 p2] X.env = (false, eval a X.env) :: starEach [.Tuple es x1 p2] X.env := by rfl) (he2 : starEach [.Tuple es x1 p2] X.env = (false, eval (.Tuple es x1 p2) X.env) :: starEach [] X.env := by rfl) (hpl : (backTo pos (starEach [.Tuple es x1 p2] X.env)).any (·.1) = false := by rfl) :
    PE X (.Call (.Name "isinstance" p1) [a, .Tuple es x1 p2] [] pos) (tP G wx (op1S (isxF tab) ma)) :=
  (pe_callB (call_isxT hK hh (ws := us)) hg hm (by decide +kernel) (pa_cons ha (pa_cons (pe_tup hb) pa_nil he2) he) (by decide) (by decide) he hpl).weak fun σ H Q ⟨H0, W, st, env, o, q⟩ => ⟨H0, W, st, env, o, (Post.split q).mono fun p W1 st1 H1 s g q v r => by
    unfold isxF at q
    refine ⟨by rw [sizeLine_eq]; omega, fun tp htp => ?_⟩
    obtain ⟨g2, s2⟩ := g.junk (o := .tup cs) htp
    have q2 := q.step s2
    obtain ⟨z, e1, k⟩ := sget_post g2 q2
    simp only [Option.bind_eq_some_iff, Option.map_eq_some_iff] at e1
    obtain ⟨kk, e2, bb, e3, rfl⟩ := e1
    obtain ⟨h1, h2⟩ := ht kk bb e3
    exact ⟨W1, st1, v, tp, cs, p, kk, bb, rfl, upd_same, kc, g2, r, e2, h2, h1, k _ (.bl _)⟩⟩
end
end Mi

set_option maxHeartbeats 4000000
namespace L2
open PySem PySem.Spec PyProof.Rows
theorem law_callN {P : Program} {w : World} {K : PySem.W.Frag} {mg mb : Str → Option Value} {CX : CXT} {k : Nat} {fa a : Addr} {fd : FuncData} {x : Str} {sp : Sp} {s₁ : Shared} {vs : List Value} {ns : List Int}
    (KX : K.In s₁.heap) (hns : s₁.heap.Ns mainGlobals mg) (hb : s₁.heap.Ns builtinsNs mb) (hbb : ∀ x : Str, x ≠ "__name__" → mb x = bootBuiltins x) (hlim : s₁.heap.NoLimit) (hg : s₁.gens = #[])
    (ha : s₁.heap.get? a = some { cls := .type "list", data := .seq vs.toArray }) (hi : IntsAre vs ns) (hl : ns.length ≤ sizeLine) (hr : Room k callerA)
    (NS : s₁.heap.NoSeer) (F : ∀ base : Heap, K.In base → base.Ns mainGlobals mg → base.NoSeer → FnOk P w K mg base CX k fa fd [x] sp) (hbind : ∀ (s : Shared) (u : Value), BindsTo s fd ⟨[u], []⟩ [(x, u)])
    (hsp : ∀ H : Hp, Only H → SqL K H a (ns.map V.int) → sp [.ref a] H (fun v _ => v = .bl true) fun _ _ _ => False)
    (hCX : ∀ H e s', CX [] H s₁ (fun _ _ _ => False) e s' → False) :
    codeAny (model P w) callerA (.call (.ref fa) ⟨[.ref a], []⟩) (fun r s' => r = .ok (.ret (.bool true)) ∧ OldK s₁.heap s'.heap ∧ s'.os = s₁.os ∧ AllBare s'.gens) s₁ := by
  have rv := vals_ints hi
  have lenV := hi.length
  -- from an abstract heap in which nothing but the script may be tracked
  have core : ∀ H : Hp, Only H → SqL K H a (ns.map V.int) → HOk P w H s₁.heap → (∀ b, H b ≠ none → b = a) → (H a ≠ none → K.lookup a = none) →
      codeAny (model P w) callerA (.call (.ref fa) ⟨[.ref a], []⟩) (fun r s' => r = .ok (.ret (.bool true)) ∧ OldK s₁.heap s'.heap ∧ s'.os = s₁.os ∧ AllBare s'.gens) s₁ := by
    intro H hO hS hok hA hK
    have base_of : ∀ {b : Addr} {o : Obj}, s₁.heap.get? b = some o → H b = none → (hidT s₁.heap H).get? b = some o := fun e n => hidT_get e n
    have noA : ∀ {b : Addr} {o : Obj} {es : Array DictEntry} {ep : Nat}, s₁.heap.get? b = some o → o.data = .dict es ep → H b = none := fun {b o es ep} e d => by
      cases q : H b with
      | none => rfl
      | some u =>
        have e' : b = a := hA b (by rw [q]; simp)
        subst e'
        rw [ha] at e; cases e
        have d' : Data.seq vs.toArray _ = Data.dict es ep := d
        cases d'
    have nsK : ∀ {b : Addr} {m : Str → Option Value}, s₁.heap.Ns b m → (hidT s₁.heap H).Ns b m := fun {b m} ⟨o, es, ep, e, d, r⟩ => ⟨o, es, ep, base_of e (noA e d), d, r⟩
    have hKb : K.In (hidT s₁.heap H) := fun b o e => base_of (KX b o e) (by
      cases q : H b with
      | none => rfl
      | some u =>
        have e' : b = a := hA b (by rw [q]; simp)
        subst e'
        rw [hK (by rw [q]; simp)] at e; cases e)
    have hM : Mod K mg (hidT s₁.heap H) := ⟨hKb, nsK hns, ⟨mb, nsK hb, hbb⟩, let ⟨mc, h1, h2⟩ := hlim; ⟨mc, nsK h1, h2⟩⟩
    have notL : ∀ {b : Addr} {o : Obj}, s₁.heap.get? b = some o → o.cls ≠ .type "list" → H b = none := fun {b o} e d => by
      cases q : H b with
      | none => rfl
      | some u =>
        have e' : b = a := hA b (by rw [q]; simp)
        subst e'
        rw [ha] at e; cases e
        exact absurd rfl d
    have NSb : (hidT s₁.heap H).NoSeer := by
      obtain ⟨⟨m1, a1, b1⟩, ⟨m2, a2, b2⟩, ⟨m3, a3, b3⟩, ⟨m4, bm, ob, a4, b4, c4, d4, e4⟩⟩ := NS
      exact ⟨⟨m1, nsK a1, b1⟩, ⟨m2, nsK a2, b2⟩, ⟨m3, nsK a3, b3⟩, ⟨m4, bm, ob, nsK a4, b4, base_of c4 (notL c4 (by rw [d4]; exact fun z => absurd (Value.type.inj z) (by decide))), d4, e4⟩⟩
    have e0 : Env0 P w K mg (hidT s₁.heap H) callerA [] s₁ H := ⟨rfl, hM, fun b o e => of_hidT e, Nat.le_of_eq (hidT_size _ _), trivial, fun b hb => absurd (show b ∈ ([] : List Addr) from hb) (by simp), hok, .of_eq hg⟩
    refine codeAny_mono ((F _ hKb (nsK hns) NSb).run callerA [] s₁ H ⟨[.ref a], []⟩ [.ref a] [.ref a] _ _ hr e0 (hbind s₁ (.ref a)) (.cons rfl .nil) (hsp H hO hS)) fun r s' h => ?_
    cases r with
    | error e => exact (hCX H e s' h).elim
    | ok fl =>
      cases fl with
      | next => exact False.elim h
      | brk => exact False.elim h
      | cont => exact False.elim h
      | ret u =>
        obtain ⟨v, H', os, bare, un, hok', r', q⟩ := h
        have q' : v = .bl true := q
        subst q'
        obtain rfl : u = Value.bool true := r'
        refine ⟨rfl, OldK.of_keep fun b o e => ?_, os, bare⟩
        cases q : H b with
        | none => exact un.keep b o e q (by intro z; exact absurd (show b ∈ ([] : List Addr) from z) (by simp)) (by simp)
        | some u =>
          rcases hO b with z | ⟨ob, xs, z⟩
          · rw [q] at z; cases z
          · have z2 := un.frzs b ob _ z
            obtain ⟨e1, _⟩ := hok b _ z
            obtain ⟨e2, _⟩ := hok' b _ z2
            rw [e] at e1; cases e1
            exact e2
  cases hk : K.lookup a with
  | some o =>
    -- the script is one of the module's own objects
    have e := KX a o hk
    rw [ha] at e
    cases e
    refine core (fun _ => none) (fun _ => .inl rfl) (.inr ⟨_, vs.toArray, _, hk, rfl, rfl, rfl, by rw [List.size_toArray, lenV]; exact hl, by simpa using rv⟩) (fun b u z => by have z' : (none : Option HO) = some u := z; cases z') (fun b z => absurd rfl z) fun z => absurd rfl z
  | none =>
    refine core (fun b => if b = a then some (.frz { cls := .type "list", data := .seq vs.toArray } (.lst (ns.map V.int))) else none) (fun b => ?_) (.inl (.inr ⟨{ cls := .type "list", data := .seq vs.toArray }, if_pos rfl⟩)) (fun b u z => ?_) (fun b z => ?_) fun _ => hk
    · by_cases hb : b = a
      · exact .inr ⟨_, _, if_pos hb⟩
      · exact .inl (if_neg hb)
    · by_cases hb : b = a
      · have z' := (if_pos hb).symm.trans z
        cases z'
        subst hb
        exact ⟨ha, by rw [List.length_map]; exact hl, vs, _, rv, ha⟩
      · have z' := (if_neg hb).symm.trans z
        cases z'
    · by_cases hb : b = a
      · exact hb
      · exact absurd (if_neg hb) z
theorem walk_ofN {l : PySem.W.OpenLaw} {n k : Nat} {q : Program} {loose : List Str} {XP : (Str → Option Value) → Heap → Prop} {YP : World → Heap → Prop} {d : DefRec} {CX : World → CXT} {x : Str}
    (hn : l.most = some n) (hn2 : n ≤ sizeLine) (hdf : d.params.defaults = []) (hi : importsNone q = true) (hr : Room k callerA)
    (F : ∀ (w : World) (mg : Str → Option Value) (fa : Addr) (h : Heap), YP w h → h.Ns mainGlobals mg → mg d.name = some (.ref fa) →
      ∃ (K : PySem.W.Frag) (fd : FuncData) (sp : Sp), K.In h ∧ (∀ (s : Shared) (u : Value), BindsTo s fd ⟨[u], []⟩ [(x, u)]) ∧
        (∀ (H : Hp) (a : Addr) (ns : List Int), ns.length ≤ n → Only H → SqL K H a (ns.map V.int) → sp [.ref a] H (fun v _ => v = .bl true) fun _ _ _ => False) ∧
        ∀ base : Heap, K.In base → base.Ns mainGlobals mg → base.NoSeer → FnOk l.prog w K mg base (CX w) k fa fd [x] sp)
    (hCX : ∀ (w : World) (H : Hp) (s : Shared) (e : Value) (s' : Shared), CX w [] H s (fun _ _ _ => False) e s' → False) :
    PySem.W.WalkO q loose XP YP l.row.toRowW d [] (fun f vs => PySem.call f vs) := by
  refine Att.attach_call hn hdf fun w s₀ s₁ mg mb fa o pm cd doc a vs ns G Y ho hd hcd hmg hobj hints hlen hg => ?_
  obtain ⟨K, fd, sp, KX, hb, hsp, hF⟩ := F w mg fa _ Y G.T.g hmg
  exact law_callN KX G.T.g G.T.b G.T.builtins G.T.nolimit hg hobj hints (Nat.le_trans hlen hn2) hr (G.T.seer hi) hF hb (fun H hO hS => hsp H a ns hlen hO hS) fun H e s' => hCX w H s₁ e s'
theorem cx_out {P : Program} {w : World} {H : Hp} {s : Shared} {e : Value} {s' : Shared} (h : L2.CX P w [] H s (fun _ _ _ => False) e s') : False := by
  obtain ⟨_, _, _, _, _, _, _, _, _, _, _, _, z⟩ := h
  exact z
end L2

set_option maxHeartbeats 4000000
namespace Mi
open PySem L2
abbrev Fq : Type := PySem.W.Frag → Bool
def allQ (fx : List Fq) (K : PySem.W.Frag) : Bool := fx.all fun f => f K
structure LayB (fa : List He.Fa) (fn : List He.DefD) (fx : List Fq) (P : Program) (K : PySem.W.Frag) (mg : Str → Option Value) (base : Heap) : Prop where
  seer : base.NoSeer
  tree : P.given.tree = none
  d : He.SaysD fa fn K
  x : allQ fx K = true
  env : ∃ h : Heap, K.In h ∧ h.Ns mainGlobals mg
section
variable {fa : List He.Fa} {fn : List He.DefD} {fx : List Fq} {P : Program} {K : PySem.W.Frag} {mg : Str → Option Value} {base : Heap} (L : LayB fa fn fx P K mg base)
include L
theorem LayB.fq (i : Nat) {f : Fq} (e : fx[i]? = some f := by rfl) : f K = true := List.all_eq_true.mp L.x f (List.mem_of_getElem? e)
theorem LayB.glo (i : Nat) {x : Str} (e : fa[i]? = some (.glo x) := by rfl) : mg x = some (.ref (He.ga K x)) := let ⟨_, X, G⟩ := L.env; He.glo_ok X G (L.d.fact i e)
theorem LayB.free (i : Nat) {x : Str} (e : fa[i]? = some (.free x) := by rfl) : mg x = none := let ⟨_, X, G⟩ := L.env; He.free_ok X G (L.d.fact i e)
theorem LayB.cint (i : Nat) {x : Str} {n : Int} (e : fa[i]? = some (.int x n) := by rfl) : ∃ t, mg x = some (.int n t) := let ⟨_, X, G⟩ := L.env; He.int_ok X G (L.d.fact i e)
theorem LayB.cstr (i : Nat) {x z : Str} (e : fa[i]? = some (.str x z) := by rfl) : ∃ t, mg x = some (.str z t) := let ⟨_, X, G⟩ := L.env; He.str_ok X G (L.d.fact i e)
theorem LayB.cls (i : Nat) {x : Str} (e : fa[i]? = some (.cls x) := by rfl) : Cls K (He.ga K x) := He.cls_ok (L.d.fact i e)
theorem LayB.noat (i : Nat) {x f : Str} (e : fa[i]? = some (.noat x f) := by rfl) : NoAttr K (He.ga K x) f := He.noat_ok (L.d.fact i e)
theorem LayB.meth (i : Nat) {x m : Str} (e : fa[i]? = some (.meth x m) := by rfl) : Meth K (He.ga K x) m (He.ma K (He.ga K x) m) := He.meth_ok (L.d.fact i e)
theorem LayB.mkr (i : Nat) {x : Str} (e : fa[i]? = some (.mkr x) := by rfl) : Mk K (He.ga K x) (He.ma K (He.ga K x) "__init__") := He.mkr_ok (L.d.fact i e)
theorem LayB.exm (i : Nat) {x y : Str} {b : Bool} (e : fa[i]? = some (.exm x y b) := by rfl) : PySem.W.exmOne K (.ref (He.ga K x)) (.ref (He.ga K y)) = some b := He.exm_ok (L.d.fact i e)
def bnd_ (ps : List Str) (x qual : Str) (st : Stmt) : Prop := ∀ (kV doc pm : Value) (an : Option Addr) (cdv ct : Value) (us : List Value), us.length = ps.length → bindArgs (PySem.W.fnOf x qual (defArgs st) (defBody st) (defScope st) .none kV doc pm an cdv ct) ⟨us, []⟩ = pure (ps.zip us)
theorem LayB.df (i j : Nat) {x : Str} {st : Stmt} {ps : List Str} (hb : bnd_ ps x x st) (e : fn[i]? = some ⟨(x, none), x, x, defArgs st, defBody st, defScope st, [], []⟩ := by rfl) (g : fa[j]? = some (.glo x) := by rfl) : ∃ fd, Df K mg x st ps (He.ga K x) fd := by
  obtain ⟨fd, F⟩ := L.d.def_ i e
  exact ⟨fd, F, L.glo j g, FunD.bindsN F hb⟩
theorem LayB.mf (i j : Nat) {c m q : Str} {st : Stmt} {ps : List Str} (hb : bnd_ ps m q st) (e : fn[i]? = some ⟨(c, some m), m, q, defArgs st, defBody st, defScope st, [], []⟩ := by rfl) (g : fa[j]? = some (.meth c m) := by rfl) : ∃ fd, Mf K (He.ga K c) m q st ps (He.ma K (He.ga K c) m) fd := by
  obtain ⟨fd, F⟩ := L.d.def_ i e
  exact ⟨fd, F, L.meth j g, FunD.bindsN F hb⟩
theorem LayB.fd (i : Nat) {c m q : Str} {st : Stmt} {ps : List Str} (hb : bnd_ ps m q st) (e : fn[i]? = some ⟨(c, some m), m, q, defArgs st, defBody st, defScope st, [], []⟩ := by rfl) : ∃ fd, FunD K m q (defArgs st) (defBody st) (defScope st) [] [] (He.ma K (He.ga K c) m) fd ∧ Binds K fd ps [] := by
  obtain ⟨fd, F⟩ := L.d.def_ i e
  exact ⟨fd, F, FunD.bindsN F hb⟩
end
/-! ### Bools of the text -/
theorem ba {a b : Bool} (h : (a && b) = true) : a = true ∧ b = true := Bool.and_eq_true_iff.mp h
def oexB (K : PySem.W.Frag) (C : Addr) : Bool := (match K.lookup C with
    | some ⟨.type "type", _, .cls cd, sl⟩ => (match cd.mro, sl.toList with
      | .ref C' :: bm, [_, _, _, _, some (.builtin n), _] => C' == C && n == "ValueError.__new__" && !cd.hasDel && cd.hasDict && PySem.HandSPX.refsVE bm
      | _, _ => false)
    | _ => false) && (decide (PySem.W.findIn K (.ref C) "__setattr__" = some (some (.builtin "object.__setattr__"))) && (decide (PySem.W.subIn K (.ref C) (.type "BaseException") = some true) && (decide (PySem.W.typeIn K (.ref C) = some (.type "type")) && PySem.W.keepIn K (.ref C))))
theorem oexB_ok {K : PySem.W.Frag} {C : Addr} (h : oexB K C = true) : OexC K C := by
  obtain ⟨h0, h⟩ := ba h
  obtain ⟨h1, h⟩ := ba h
  obtain ⟨h2, h⟩ := ba h
  obtain ⟨h3, h4⟩ := ba h
  refine ⟨?_, of_decide_eq_true h1, of_decide_eq_true h2, of_decide_eq_true h3, h4⟩
  split at h0
  · rename_i dd cd sl ho
    split at h0
    · rename_i C' bm k0 k1 k2 k3 n k5 hm hs
      simp only [Bool.and_eq_true, beq_iff_eq, Bool.not_eq_true'] at h0
      obtain ⟨⟨⟨⟨rfl, rfl⟩, hdel⟩, hd⟩, hr⟩ := h0
      obtain ⟨nm, bs, mro, ns, qn, hdct, sn, sub, ab, col, del⟩ := cd
      dsimp only at hm hdel hd
      subst hm hdel hd
      have hsl : sl = #[k0, k1, k2, k3, some (.builtin "ValueError.__new__"), k5] := by
        obtain ⟨l⟩ := sl
        simp only at hs
        rw [hs]
      subst hsl
      exact ⟨nm, qn, ns, bs, bm, sn, sub, ab, col, dd, k0, k1, k2, k3, k5, ho, hr⟩
    · cases h0
  · cases h0
def clsB (K : PySem.W.Frag) (C : Addr) : Bool := decide (PySem.W.findIn K (.ref C) "__class__" = some (some (.builtin "object.__class__"))) && (decide (PySem.W.specialIn K (.builtin "object.__class__") "__get__" = some (some (.builtin "getset_descriptor.__get__"))) && (decide (PySem.W.takesIn K (.builtin "object.__class__") = some true) && decide (PySem.W.mroIn K C (.type "object") = some true)))
theorem excC_ok {K : PySem.W.Frag} {C : Addr} (h1 : xfB K C = true) (h2 : clsB K C = true) : ExcC K C := by
  have x := xfB_ok h1
  obtain ⟨a1, h⟩ := ba h2
  obtain ⟨a2, h⟩ := ba h
  obtain ⟨a3, a4⟩ := ba h
  exact ⟨x.ga, x.gg, x.exC, x.hdC, of_decide_eq_true a1, of_decide_eq_true a2, of_decide_eq_true a3, of_decide_eq_true a4⟩
theorem insC_ok {K : PySem.W.Frag} {C : Addr} (h1 : Cls K C) (h2 : clsB K C = true) : InsC K C := by
  obtain ⟨a1, h⟩ := ba h2
  obtain ⟨a2, h⟩ := ba h
  obtain ⟨a3, a4⟩ := ba h
  exact ⟨h1, of_decide_eq_true a1, of_decide_eq_true a2, of_decide_eq_true a3, of_decide_eq_true a4⟩
/-- class x is such an exception, its __init__ its own -/
def exkB (x : Str) : Fq := fun K => oexB K (He.ga K x) && (decide (PySem.W.findIn K (.ref (He.ga K x)) "__init__" = some (some (.ref (He.ma K (He.ga K x) "__init__")))) && (decide (PySem.W.typeIn K (.ref (He.ma K (He.ga K x) "__init__")) = some (.type "function")) && (xfB K (He.ga K x) && clsB K (He.ga K x))))
theorem exkB_ok {K : PySem.W.Frag} {mg : Str → Option Value} {x : Str} (h : exkB x K = true) (m : mg x = some (.ref (He.ga K x))) : ExK K mg (He.ga K x) x (He.ma K (He.ga K x) "__init__") ∧ XfC K (He.ga K x) ∧ ExcC K (He.ga K x) := by
  obtain ⟨h1, h⟩ := ba h
  obtain ⟨h2, h⟩ := ba h
  obtain ⟨h3, h⟩ := ba h
  obtain ⟨h4, h5⟩ := ba h
  exact ⟨⟨oexB_ok h1, of_decide_eq_true h2, of_decide_eq_true h3, m⟩, xfB_ok h4, excC_ok h4 h5⟩
/-- class x reads as a class does, its __init__ is ValueError's -/
def rdB (x : Str) : Fq := fun K => PySem.W.readsIn K (He.ga K x) (.type "type") && (decide (PySem.W.specialIn K (.ref (He.ga K x)) "__getattribute__" = some (some (.builtin "type.__getattribute__"))) && (match PySem.W.findCls K (.ref (He.ga K x)) (.type "type") "__init__" with
  | some (.val (.builtin n)) => n == "ValueError.__init__"
  | _ => false))
theorem rdB_ok {K : PySem.W.Frag} {x : Str} (h : rdB x K = true) : ClX.CRead K (He.ga K x) (.type "type") ∧ PySem.W.findCls K (.ref (He.ga K x)) (.type "type") "__init__" = some (.val (.builtin "ValueError.__init__")) := by
  obtain ⟨h1, h⟩ := ba h
  obtain ⟨h2, h3⟩ := ba h
  refine ⟨⟨h1, of_decide_eq_true h2⟩, ?_⟩
  split at h3
  · rename_i n e
    rw [e, eq_of_beq h3]
  · cases h3
/-- isinstance: class x against class | built-in y -/
def kitO (x : Str) (y : Str) (b : Bool) : Fq := fun K => decide (PySem.W.kitOne K (.ref (He.ga K x)) (.ref (He.ga K y)) = some b)
def kitT (x : Str) (y : String) (b : Bool) : Fq := fun K => decide (PySem.W.kitOne K (.ref (He.ga K x)) (.type y) = some b)
def kitU (x : String) (y : Str) (b : Bool) : Fq := fun K => decide (PySem.W.kitOne K (.type x) (.ref (He.ga K y)) = some b)
def clsQ (x : Str) : Fq := fun K => clsB K (He.ga K x)

def tabOf (l : List (TyK × Bool)) : TyK → Option Bool := fun k => l.lookup k
theorem tab_ok {G : Glo} {cv : Value} {l : List (TyK × Bool)} (h : ∀ q ∈ l, PySem.W.kitOne G.K (q.1.v G) cv = some q.2 ∧ q.1.ok G) : TabOk G cv (tabOf l) := fun k b e => by
  have key : ∀ {l : List (TyK × Bool)}, l.lookup k = some b → (k, b) ∈ l := by
    intro l
    induction l with
    | nil => intro e; cases e
    | cons q l ih =>
      intro e
      obtain ⟨k', b'⟩ := q
      rw [List.lookup_cons] at e
      cases z : (k == k') with
      | true =>
        rw [z] at e
        cases e
        rw [eq_of_beq z]
        exact List.mem_cons_self
      | false => rw [z] at e; exact List.mem_cons_of_mem _ (ih e)
  exact h _ (key e)
theorem tabN {p : TyK × Bool → Prop} : ∀ q ∈ ([] : List (TyK × Bool)), p q := fun _ h => nomatch h
theorem tabC {p : TyK × Bool → Prop} {q : TyK × Bool} {l : List (TyK × Bool)} (h : p q) (r : ∀ q ∈ l, p q) : ∀ z ∈ q :: l, p z := fun z hz => by
  rcases List.mem_cons.mp hz with e | e
  · rw [e]; exact h
  · exact r z e
/-! ### the Hook -/
abbrev AlY : Type := He.AlD × Bool
def frY (g : Addr → Option Obj) (n : Nat) : PySem.W.Frag := He.frG g (cStatics :: He.asD g n)
def obsY (n : Nat) (fa : List He.Fa) (fn : List He.DefD) (fx : List Fq) (g : Addr → Option Obj) : AlY := (He.obsD fa fn (frY g n), allQ fx (frY g n))
def hookY (n : Nat) (fa : List He.Fa) (fn : List He.DefD) (fx : List Fq) : PySem.W.Hook where
  α := AlY
  obs := fun s => obsY n fa fn fx s.heap.get?
  val := fun _ => (He.valD fn, true)
  says := fun _ h => ∃ K : PySem.W.Frag, K.In h ∧ He.SaysD fa fn K ∧ allQ fx K = true
  of := fun _ _ e => ⟨_, He.frG_in, congrArg (fun z : AlY => z.1) e, congrArg (fun z : AlY => z.2) e⟩
  keeps := fun _ _ _ ⟨K, hK, c⟩ k => ⟨K, PySem.W.Frag.In.keeps hK k, c⟩
theorem obsY_eq {n : Nat} {fa : List He.Fa} {fn : List He.DefD} {fx : List Fq} {g : Addr → Option Obj} {s : Shared} (h : ∀ a, g a = s.heap.get? a) : obsY n fa fn fx g = (hookY n fa fn fx).obs s := by
  have e : g = s.heap.get? := funext h
  rw [e] <;> rfl
/-! ### a law's script -/
theorem law_in {G : Glo} {f : List PV → M SV} {H : Hp} {a : Addr} {ns : List Int} (hG : G.K = K) (hO : Only H) (hS : SqL K H a (ns.map V.int)) (h : ∃ st, f [.rd (ns.map PV.int)] [] = .ok (.t (.bl true)) st) :
    spF G 1 f [.ref a] H (fun v _ => v = .bl true) fun _ _ _ => False := by
  obtain ⟨st, e⟩ := h
  subst hG
  have r : ∀ l : List Int, RepL G ⟨[], H⟩ (l.map V.int) (l.map PV.int) := fun l => by
    induction l with
    | nil => exact .nil
    | cons i l ih => exact .cons (.int i) ih
  refine ⟨rfl, ⟨[], H⟩, [], [.rd (ns.map PV.int)], ⟨fun _ _ h => h, rfl, fun n a c h1 => by simp at h1, fun n m a c d h1 => by simp at h1⟩, .cons (.rd hS (r ns)) .nil, ?_⟩
  rw [e]
  intro W' H' s g v hv
  cases hv
  rfl
end Mi

set_option maxHeartbeats 4000000
namespace Mi
open PySem L2
section
variable {G : Glo} {wx : WX} {W W' W1 W2 : Wd} {st st' st1 st2 : Store} {H H' H0 H1 H2 Hs : Hp} {σ : L2.St} {env : Ev} {D : Ends} {B : Bs}
variable {X : Cx} {a b c e o tg iter : Expr} {ma mb mo mi me : Ev → M PV} {m : Ev → M SV} {pos p apos tpos cpos : Pos} {es : List Expr} {ms : Ev → M (List PV)}
/-- l[::-1] -/
def revM (ma : Ev → M PV) : Ev → M SV := fun env => bnd (ma env) fun p => bnd (sget (drfL p)) fun l => ret (.own (.lst l.reverse))
theorem RepL.rev : ∀ {vs : List V} {l : List PV}, RepL G W vs l → RepL G W vs.reverse l.reverse
  | _, _, .nil => .nil
  | _, _, .cons h r => by
    rw [List.reverse_cons, List.reverse_cons]
    exact r.rev.append (.one h)
theorem r_rev {k : Nat} {p1 p2 p3 : Pos} (ha : PE X a (tP G wx ma)) : PE X (.Subscript a (.Slice none none (some (.UnaryOp .USub (.Constant (.int 1) k p1) p2)) p3) pos) (tV G wx (revM ma)) :=
  (pe_revL ha).weak fun σ H Q ⟨H0, W, st, env, o, q⟩ => by
    refine ⟨H0, W, st, env, o, (Post.split q).mono fun p W1 st1 H1 s g q v r => ?_⟩
    obtain ⟨l, e1, k⟩ := sget_post g (Post.split q)
    obtain ⟨a1, vs, rfl, h1, r1⟩ := drfL_ok g r e1
    refine ⟨a1, vs, rfl, .of h1, fun ad had => ?_⟩
    obtain ⟨g3, s3, o3⟩ := g.newL had r1.rev
    exact k W1 _ s3 g3 _ ⟨ad, rfl, o3 H fun b hb => s.there b hb⟩
/-- tuple + tuple -/
def addU (p q : PV) (st : Store) : Option PV := match p, q with
  | .tup l, .tup m => if l ≠ [] ∧ m ≠ [] ∧ l.length + m.length ≤ sizeLine then some (.tup (l ++ m)) else none
  | _, _ => none
theorem r_addU (hK : X.K = G.K) (ha : PE X a (tP G wx ma)) (hb : PE X b (tP G wx mb)) : PE X (.BinOp a .Add b pos) (tP G wx (op2S addU ma mb)) :=
  (pe_op op_catT ha hb).weak fun σ H Q ⟨H0, W, st, env, o, q⟩ => by
    refine ⟨H0, W, st, env, o, (Post.split q).mono fun p W1 st1 H1 s g q v r => ?_⟩
    refine ⟨H0, W1, st1, env, o.step s g, (Post.split q).mono fun p2 W2 st2 H2 s2 g2 q2 v2 r2 => ?_⟩
    obtain ⟨z, e, k0⟩ := sget_post g2 q2
    have rr := r.mono s2.le
    have e0 : addU p p2 st2 = some z := e
    cases rr <;> first | (cases e0; done) | skip
    rename_i a1 vs l h1 r1
    cases r2 <;> first | (cases e0; done) | skip
    rename_i a2 vs2 l2 h2 r3
    have e' : (if l ≠ [] ∧ l2 ≠ [] ∧ l.length + l2.length ≤ sizeLine then some (.tup (l ++ l2)) else none) = some z := e0
    by_cases hc : l ≠ [] ∧ l2 ≠ [] ∧ l.length + l2.length ≤ sizeLine
    · rw [if_pos hc] at e'
      cases e'
      obtain ⟨n1, n2, n3⟩ := hc
      refine ⟨a1, a2, vs, vs2, rfl, rfl, by rw [hK]; exact SqT.same g2.sub h1, by rw [hK]; exact SqT.same g2.sub h2, fun z => n1 (by subst z; cases r1; rfl), by rw [r1.len, r3.len]; exact n3, fun z => absurd (by subst z; cases r3; rfl) n2, fun _ ad had => ?_⟩
      obtain ⟨W3, g3, s3, r4⟩ := g2.newT had (r1.append r3)
      have q3 : Post G wx σ W2 st2 H2 (fun p W' st' H' => ∀ (v : V), Rep G W' v p → Q v H') (.ok (.tup (l ++ l2)) st2) := by
        have e4 : sget (addU (PV.tup l) (PV.tup l2)) st2 = .ok (.tup (l ++ l2)) st2 := by unfold sget; rw [e0]
        rw [← e4]; exact q2
      exact q3 W3 _ s3 g3 _ r4
    · rw [if_neg hc] at e'; cases e'
/-- {} -/
def dct0 : Ev → M SV := fun _ => ret (.own (.dct [] []))
theorem r_dct0 : PE X (.Dict [] [] pos) (tV G wx dct0) := pe_dnewK.weak fun σ H Q ⟨H0, W, st, env, o, q⟩ ad had => by
  obtain ⟨g1, s1⟩ := o.g.junk (o := .dK []) had
  exact q W _ s1 g1 _ ⟨ad, rfl, ⟨⟨[], upd_same, rfl, .nil⟩, o.g.sub.free had, fun z => (live_some o.g z).1 had, had⟩⟩
end
def csOf (l : List (Nat × Bool)) : Nat → Option Bool := fun k => l.lookup k
theorem cs_ok {K : PySem.W.Frag} {ca : Nat → Addr} {c : Value} {l : List (Nat × Bool)} (h : ∀ q ∈ l, PySem.W.exmOne K (.ref (ca q.1)) c = some q.2) : ∀ k b, csOf l k = some b → PySem.W.exmOne K (.ref (ca k)) c = some b := fun k b e => by
  have key : ∀ {l : List (Nat × Bool)}, l.lookup k = some b → (k, b) ∈ l := by
    intro l
    induction l with
    | nil => intro e; cases e
    | cons q l ih =>
      intro e
      obtain ⟨k', b'⟩ := q
      rw [List.lookup_cons] at e
      cases z : (k == k') with
      | true =>
        rw [z] at e
        cases e
        rw [eq_of_beq z]
        exact List.mem_cons_self
      | false => rw [z] at e; exact List.mem_cons_of_mem _ (ih e)
  exact h _ (key e)
theorem csN {p : Nat × Bool → Prop} : ∀ q ∈ ([] : List (Nat × Bool)), p q := fun _ h => nomatch h
theorem csC {p : Nat × Bool → Prop} {q : Nat × Bool} {l : List (Nat × Bool)} (h : p q) (r : ∀ q ∈ l, p q) : ∀ z ∈ q :: l, p z := fun z hz => by
  rcases List.mem_cons.mp hz with e | e
  · rw [e]; exact h
  · exact r z e
def inClass (s : Stmt) (j : Nat) : Stmt := match s with
  | .ClassDef (body := b) .. => b.getD j (.Pass ⟨0, 0, 0, 0⟩)
  | _ => .Pass ⟨0, 0, 0, 0⟩
end Mi

set_option maxHeartbeats 4000000
namespace Mi
open PySem L2
section
variable {G : Glo} {wx : WX} {W W' W1 W2 : Wd} {st st' st1 st2 : Store} {H H' H0 H1 H2 Hs : Hp} {σ : L2.St} {env : Ev} {D : Ends} {B : Bs}
variable {X : Cx} {a b c e o tg iter : Expr} {ma mb mo mi me : Ev → M PV} {m : Ev → M SV} {pos p p' p2 apos tpos cpos spos : Pos} {es : List Expr} {ms : Ev → M (List PV)} {x y : Str}
variable {lo hi : Option Expr} {ml mh : Ev → M (Option Int)}
/-- a slice of a text -/
def slS (ma : Ev → M PV) (ml mh : Ev → M (Option Int)) : Ev → M PV := fun env => bnd (ma env) fun p => bnd (ml env) fun l => bnd (mh env) fun h => match p with
  | .str z => if z.length ≤ sizeLine then ret (.str (cutS z l h)) else fail
  | _ => fail
theorem r_slS (ha : PE X e (tP G wx ma)) (hl : PO X lo (tO G wx ml)) (hh : PO X hi (tO G wx mh)) : PE X (.Subscript e (.Slice lo hi none p2) pos) (tP G wx (slS ma ml mh)) :=
  (pe_slice sl_str ha hl hh).weak fun σ H Q ⟨H0, W, st, env, o, q⟩ => ⟨H0, W, st, env, o, (Post.split q).mono fun p W1 st1 H1 s g q v r =>
    ⟨H0, W1, st1, env, o.step s g, (Post.split q).mono fun l W2 st2 H2 s2 g2 q => ⟨H0, W2, st2, env, (o.step s g).step s2 g2, (Post.split q).mono fun h W3 st3 H3 s3 g3 q => by
      have r' := (r.mono s2.le).mono s3.le
      cases r' with
      | str z =>
        have q' : Post G wx σ W3 st3 H3 (fun p W' st' H' => ∀ v, Rep G W' v p → Q v H') ((if z.length ≤ sizeLine then ret (.str (cutS z l h)) else fail : M PV) st3) := q
        by_cases hz : z.length ≤ sizeLine
        · rw [if_pos hz] at q'
          exact ⟨z, rfl, hz, q' W3 H3 .refl g3 _ (.str _)⟩
        · rw [if_neg hz] at q'; exact q'.elim
      | _ => exact q.elim⟩⟩⟩
/-- l.index(x), flat items -/
def idxF (p q : PV) (st : Store) : Option PV := (drfL p st).bind fun l => (toFls l).bind fun ys => (toFl q).bind fun y => (ys.findIdx? fun z => eqV z y).map fun j => .int (j : Nat)
def idxM (mo : Ev → M PV) (ms : Ev → M (List PV)) : Ev → M PV := fun env => bnd (mo env) fun p => bnd (sget (drfL p)) fun _ => bnd (ms env) fun l => match l with
  | [q] => sget (idxF p q)
  | _ => fail
theorem r_index (hK : X.K = G.K) (h : PE X (.Call (.Attribute o "index" apos) (e :: es) [] cpos) (tBM X.K "list" (rIndex X.K) (tP G wx mo) (tA G wx ms))) :
    PE X (.Call (.Attribute o "index" apos) (e :: es) [] cpos) (tP G wx (idxM mo ms)) :=
  h.weak fun σ H Q ⟨H0, W, st, env, o, q⟩ => ⟨H0, W, st, env, o, (Post.split q).mono fun p W1 st1 H1 s g q v r => by
    obtain ⟨l0, e0, q1⟩ := sget_post g (Post.split q)
    obtain ⟨ad, vs, rfl, hv, _⟩ := drfL_ok g r e0
    refine ⟨Or.inl ⟨rfl, vs, .of hv⟩, H0, W1, st1, env, o.step s g, (Post.split q1).mono fun l W2 st2 H2 s2 g2 q us rs => ?_⟩
    match l, rs with
    | [], _ => exact q.elim
    | _ :: _ :: _, _ => exact q.elim
    | [q0], rs =>
      obtain ⟨u, rfl, ru⟩ := rep1 rs
      obtain ⟨z, e1, k⟩ := sget_post g2 q
      unfold idxF at e1
      simp only [Option.bind_eq_some_iff, Option.map_eq_some_iff] at e1
      obtain ⟨l, e2, ys, e3, y, e4, j, e5, rfl⟩ := e1
      obtain ⟨ad2, vs2, er, hv2, r2⟩ := drfL_ok g2 (r.mono s2.le) e2
      cases er
      obtain ⟨rfl, f1⟩ := toFls_ok r2 e3
      obtain ⟨rfl, f2⟩ := toFl_ok ru e4
      obtain ⟨hj, hy, hno⟩ := List.findIdx?_eq_some_iff_getElem.mp e5
      refine ⟨ad, vs2, u, j, vs2[j], rfl, rfl, by rw [hK]; exact .of hv2, f2, f1, List.getElem?_eq_getElem hj, hy, fun m z' hm hz' => ?_, k _ (.int _)⟩
      have hml : m < vs2.length := by omega
      rw [List.getElem?_eq_getElem hml] at hz'
      cases hz'
      exact Bool.eq_false_iff.mpr (hno m hm)⟩
/-- max(l) -/
def toIs : List PV → Option (List Int)
  | [] => some []
  | .int i :: l => (toIs l).map fun is => i :: is
  | _ => none
theorem toIs_ok : ∀ {l : List PV} {vs : List V} {is : List Int}, RepL G W vs l → toIs l = some is → vs = is.map V.int
  | _, _, _, .nil, e => by cases e; rfl
  | _, _, _, .cons h r, e => by
    cases h <;> first | (cases e; done) | skip
    simp only [toIs, Option.map_eq_some_iff] at e
    obtain ⟨is, e1, rfl⟩ := e
    rw [toIs_ok r e1]; rfl
def maxI : List Int → Int
  | [] => 0
  | [i] => i
  | i :: l => if i < maxI l then maxI l else i
theorem maxI_mem : ∀ {l : List Int}, l ≠ [] → maxI l ∈ l ∧ ∀ y ∈ l, y ≤ maxI l
  | [], h => absurd rfl h
  | [i], _ => ⟨by simp [maxI], by simp [maxI]⟩
  | i :: j :: l, _ => by
    obtain ⟨h1, h2⟩ := maxI_mem (l := j :: l) (by simp)
    show (if i < maxI (j :: l) then maxI (j :: l) else i) ∈ _ ∧ ∀ y ∈ _, y ≤ (if i < maxI (j :: l) then maxI (j :: l) else i)
    split
    · refine ⟨List.mem_cons_of_mem _ h1, fun y hy => ?_⟩
      rcases List.mem_cons.mp hy with e | e
      · omega
      · exact h2 y e
    · refine ⟨List.mem_cons_self, fun y hy => ?_⟩
      rcases List.mem_cons.mp hy with e | e
      · omega
      · have := h2 y e; omega
def maxLF (l : List PV) (st : Store) : Option PV := match l with
  | [p] => (drfL p st).bind fun xs => (toIs xs).bind fun is => if is ≠ [] then some (.int (maxI is)) else none
  | _ => none
theorem r_maxL (hK : X.K = G.K) (hc : X.calm = true) (hm : X.mg "max" = none) (ha : PA X [e] (tA G wx ms)) (hg : Gl X "max" := by rfl) (he : starEach [e] X.env = (false, eval e X.env) :: starEach [] X.env := by rfl) :
    PE X (.Call (.Name "max" p) [e] [] pos) (tP G wx (cbS maxLF ms)) := r_cbB (cr_max hc) (fun W st H vs l z Q g r e k => by
    unfold maxLF at e
    split at e
    · simp only [Option.bind_eq_some_iff] at e
      obtain ⟨xs, e1, is, e2, e3⟩ := e
      by_cases hn : is ≠ []
      · rw [if_pos hn] at e3
        cases e3
        obtain ⟨v, rfl, rp⟩ := rep1 r
        obtain ⟨a, ws, rfl, h, r⟩ := drfL_ok g rp e1
        refine ⟨a, is, rfl, by rw [hK, ← toIs_ok r e2]; exact .of h, List.length_pos_iff.mpr hn, fun m h1 h2 => ?_⟩
        obtain ⟨h3, h4⟩ := maxI_mem hn
        have : m = maxI is := by have := h2 _ h3; have := h4 _ h1; omega
        rw [this]; exact k _ (.int _)
      · rw [if_neg hn] at e3; cases e3
    · cases e) hg hm (by decide +kernel) ha (by decide) (by decide) he rfl
end
theorem tabA_ok {G : Glo} {us : List Value} {l : List (TyK × Bool)} (h : ∀ q ∈ l, PySem.W.kitAny G.K (q.1.v G) us = some q.2 ∧ q.1.ok G) : TabAny G us (tabOf l) := fun k b e => by
  have key : ∀ {l : List (TyK × Bool)}, l.lookup k = some b → (k, b) ∈ l := by
    intro l
    induction l with
    | nil => intro e; cases e
    | cons q l ih =>
      intro e
      obtain ⟨k', b'⟩ := q
      rw [List.lookup_cons] at e
      cases z : (k == k') with
      | true =>
        rw [z] at e
        cases e
        rw [eq_of_beq z]
        exact List.mem_cons_self
      | false => rw [z] at e; exact List.mem_cons_of_mem _ (ih e)
  exact h _ (key e)
/-- a constant of the module: a tuple of whole numbers -/
def tupQ (x : Str) (vs : List Int) : Fq := fun K => He.tupB K x (vs.map He.Dv.int)
theorem tupQ_rep {K : PySem.W.Frag} {G : Glo} {x : Str} {vs : List Int} (hG : G.K = K) (h : tupQ x vs K = true) (W : Wd) : Rep G W (.ref (He.ga K x)) (.tup (vs.map PV.int)) := by
  subst hG
  have h1 := He.tupB_ok h W.F
  have e : (vs.map He.Dv.int).map (He.Dv.v G.K) = vs.map V.int := by rw [List.map_map]; rfl
  rw [e] at h1
  have r : ∀ l : List Int, RepL G W (l.map V.int) (l.map PV.int) := fun l => by
    induction l with
    | nil => exact .nil
    | cons i l ih => exact .cons (.int i) ih
  exact .tup h1 (r vs)
end Mi

set_option maxHeartbeats 4000000
namespace Mi
open PySem L2
section
variable {G : Glo} {wx : WX} {W W' W1 W2 : Wd} {st st' st1 st2 : Store} {H H' H0 H1 H2 Hs : Hp} {σ : L2.St} {env : Ev} {D : Ends} {B : Bs}
variable {X : Cx} {a b c e o tg iter : Expr} {ma mb mo mi mj me : Ev → M PV} {m : Ev → M SV} {pos p p' p2 apos tpos cpos spos : Pos} {es : List Expr} {ms : Ev → M (List PV)} {x y : Str}
def storeV (i : Nat) (mi : Ev → M PV) (p : PV) : SM := ownS i fun l => exprS mi fun q env st => match q with
  | .int k => match ixN l.length k with
    | some j => .nx (env.set i (.own (.lst (l.set j p)))) st
    | none => .no
  | _ => .no
theorem seq_expr {α : Type} {m : Ev → M α} {k : α → SM} {n : SM} : seqS (exprS m k) n = exprS m fun a => seqS (k a) n := by
  funext env st
  unfold seqS exprS
  cases m env st <;> rfl
theorem store_ok {i : Nat} {v : V} {p : PV} {n : SM} (s : BStep B W st H) (o : SOk G B.H W st H σ env) (rv : Rep G W v p) (q : PostS G wx B D (seqS (storeV i mi p) n env st)) :
    gSub (tVar i) (tP G wx mi) rSetL v σ H fun σ' H' => ∃ W' st' env', BStep B W' st' H' ∧ SOk G B.H W' st' H' σ' env' ∧ Wle W W' ∧ PostS G wx B D (n env' st') := by
  have q0 : ∃ l, env[i]? = some (.own (.lst l)) ∧ PostS G wx B D (seqS (exprS mi fun q env st => match q with
      | .int k => match ixN l.length k with
        | some j => .nx (env.set i (.own (.lst (l.set j p)))) st
        | none => .no
      | _ => .no) n env st) := by
    unfold storeV ownS seqS at q
    dsimp only at q
    cases e : env[i]? with
    | none => rw [e] at q; exact q.elim
    | some sv =>
      cases sv with
      | own c =>
        cases c with
        | lst l => rw [e] at q; exact ⟨l, rfl, q⟩
        | _ => rw [e] at q; exact q.elim
      | _ => rw [e] at q; exact q.elim
  obtain ⟨l, el, q1⟩ := q0
  rw [seq_expr] at q1
  obtain ⟨a, ea, oa⟩ := o.e.own el
  refine ⟨_, ea, B.H, W, st, env, o, (PostS.split s o q1).mono fun k W2 st2 H2 s2 g2 q2 u ru => ?_⟩
  cases ru <;> first | (exact q2.elim) | skip
  rename_i k
  have q2 : PostS G wx B D (seqS (fun env st => match ixN l.length k with | some j => .nx (env.set i (.own (.lst (l.set j p)))) st | none => .no) n env st2) := q2
  cases ej : ixN l.length k with
  | none => unfold seqS at q2; dsimp only at q2; rw [ej] at q2; exact q2.elim
  | some j =>
    unfold seqS at q2
    dsimp only at q2
    rw [ej] at q2
    have q3 : PostS G wx B D (n (env.set i (.own (.lst (l.set j p)))) st2) := q2
    have o2 := o.step s2 g2
    have oa2 := oa.step s2
    obtain ⟨vs, hv, rvs⟩ := oa2.ob
    refine ⟨a, vs, k, j, rfl, rfl, hv, by rw [rvs.len]; exact ej, ?_⟩
    obtain ⟨s3, o3⟩ := wr_own (u := .lst (vs.set j v)) (c' := .lst (l.set j p)) (s.trans s2) o2 el ea oa2 ⟨_, upd_same, rvs.set j (rv.mono s2.le)⟩
    exact ⟨W2, st2, _, s3, o3, s2.le, q3⟩
def swapV (r r2 : Nat) (ms : Ev → M (List PV)) (mi mj : Ev → M PV) : SM := exprS (tupE ms) fun p => match p with
  | .tup [x, y] => seqS (storeV r mi x) (seqS (storeV r2 mj y) nxS)
  | _ => fun _ _ => .no
theorem r_swapV (hK : X.K = G.K) {r r2 k : Nat} {t1 t2 : Expr} (he : PE X e (tP G wx (tupE ms))) (hsub : PG X (.Tuple [t1, t2] k tpos) (gTup X.K 2 (gCons (gSub (tVar r) (tP G wx mi) rSetL) (gCons (gSub (tVar r2) (tP G wx mj) rSetL) gNil))))
    (hs : swapsWithSole [.Tuple [t1, t2] k tpos] e pos.line X.env = pure false := by rfl) (hw : swappedStores [.Tuple [t1, t2] k tpos] e X.env = pure none := by rfl)
    (h1 : (assignEach [.Tuple [t1, t2] k tpos] X.env).map (·.2) = [assign (.Tuple [t1, t2] k tpos) X.env] := by rfl) : PS X (.Assign [.Tuple [t1, t2] k tpos] e pos) (tS G wx (swapV r r2 ms mi mj)) :=
  (ps_asg he hsub hs hw h1).weak fun D σ H ⟨B, W, st, env, s, o, q⟩ => ⟨B.H, W, st, env, o, (PostS.split s o q).mono fun p W1 st1 H1 s1 g1 q1 v rv => by
    have o1 := o.step s1 g1
    cases rv <;> first | (exact q1.elim) | skip
    rename_i ad vs l hT rl
    match l, rl, q1 with
    | [], _, q1 => exact q1.elim
    | [_], _, q1 => exact q1.elim
    | _ :: _ :: _ :: _, _, q1 => exact q1.elim
    | [x, y], rl, q1 =>
      cases rl with
      | @cons u us _ _ r1 rl =>
        cases rl with
        | @cons w us _ _ r2 rl =>
          cases rl
          have q1' : PostS G wx B D (seqS (storeV r mi x) (seqS (storeV _ mj y) nxS) env st1) := q1
          refine ⟨ad, [u, w], rfl, by rw [hK]; exact SqT.same g1.sub hT, rfl, u, [w], rfl, ?_⟩
          have z1 := store_ok (s.trans s1) o1 r1 q1'
          obtain ⟨v0, e0, z1⟩ := z1
          refine ⟨v0, e0, ?_⟩
          obtain ⟨H0', W0', st0', env0', o0', p0'⟩ := z1
          refine ⟨H0', W0', st0', env0', o0', p0'.mono fun pp W3 st3 H3 s3 g3 q3 u3 ru3 => ?_⟩
          obtain ⟨p4, xs, k4, j4, e1, e2, e3, e4, W4, st4, env4, s5, o5, le5, q5⟩ := q3 u3 ru3
          refine ⟨p4, xs, k4, j4, e1, e2, e3, e4, w, [], rfl, ?_⟩
          have z2 := store_ok s5 o5 (r2.mono le5) q5
          obtain ⟨v6, e6, H6, W6, st6, env6, o6, p6⟩ := z2
          refine ⟨v6, e6, H6, W6, st6, env6, o6, p6.mono fun pp W7 st7 H7 s7 g7 q7 u7 ru7 => ?_⟩
          obtain ⟨p8, xs8, k8, j8, f1, f2, f3, f4, W8, st8, env8, s9, o9, le9, q9⟩ := q7 u7 ru7
          exact ⟨p8, xs8, k8, j8, f1, f2, f3, f4, rfl, q9 W8 _ _ s9 o9⟩⟩
/-- x = l.pop(i), l owned -/
def popK (j i : Nat) (l : List PV) (p : PV) : SM := fun env st => match p with
  | .int k => if -(2 ^ 63) ≤ k ∧ k < 2 ^ 63 then match ixN l.length k with
    | some n => match l[n]? with
      | some p => .nx ((env.set i (.own (.lst (l.eraseIdx n)))).set j (.t p)) st
      | none => .no
    | none => .no else .no
  | _ => .no
def popN (j i : Nat) (ms : Ev → M (List PV)) : SM := ownS i fun l => exprS ms fun ps => match ps with
  | [p] => popK j i l p
  | _ => fun _ _ => .no
theorem r_popN {s0 : Stmt} (hK : X.K = G.K) {i j : Nat} (h : PS X s0 (tAsg (tBM X.K "list" rPopAt (tVar i) (tA G wx ms)) (gName j))) : PS X s0 (tS G wx (popN j i ms)) :=
  h.weak fun D σ H ⟨B, W, st, env, s, o, q⟩ => by
    obtain ⟨l, el, q1⟩ := ownS_post q
    obtain ⟨a, ea, oa⟩ := o.e.own el
    obtain ⟨vs, hv, rvs⟩ := oa.ob
    refine ⟨_, ea, Or.inl ⟨rfl, vs, .of hv⟩, B.H, W, st, env, o, (PostS.split s o q1).mono fun ps W1 st1 H1 s1 g1 q2 us ru => ?_⟩
    match ps, ru with
    | [], _ => exact q2.elim
    | _ :: _ :: _, _ => exact q2.elim
    | [p], ru =>
      obtain ⟨v, rfl, rv⟩ := rep1 ru
      clear ru
      cases rv <;> first | (exact q2.elim) | skip
      rename_i k
      have q2 : PostS G wx B D (if -(2 ^ 63) ≤ k ∧ k < 2 ^ 63 then match ixN l.length k with
        | some n => match l[n]? with
          | some p => .nx ((env.set i (.own (.lst (l.eraseIdx n)))).set j (.t p)) st1
          | none => .no
        | none => .no else .no) := q2
      by_cases hk : -(2 ^ 63) ≤ k ∧ k < 2 ^ 63
      · rw [if_pos hk] at q2
        cases en : ixN l.length k with
        | none => rw [en] at q2; exact q2.elim
        | some n =>
          rw [en] at q2
          have q2 : PostS G wx B D (match l[n]? with
            | some p => .nx ((env.set i (.own (.lst (l.eraseIdx n)))).set j (.t p)) st1
            | none => .no) := q2
          cases ep : l[n]? with
          | none => rw [ep] at q2; exact q2.elim
          | some p =>
            rw [ep] at q2
            have oa1 := oa.step s1
            obtain ⟨vs, hv, rvs⟩ := oa1.ob
            obtain ⟨y, ey, ry⟩ := rvs.get' ep
            refine ⟨a, vs, k, n, y, rfl, rfl, hv, hk.1, hk.2, by rw [rvs.len]; exact (ixN_seq en).1, ey, ?_⟩
            obtain ⟨s3, o3⟩ := wr_own (u := .lst (vs.eraseIdx n)) (c' := .lst (l.eraseIdx n)) (s.trans s1) (o.step s1 g1) el ea oa1 ⟨_, upd_same, rvs.eraseIdx n⟩
            exact q2 W1 _ _ s3 ⟨o3.g, o3.e.setT ry⟩
      · rw [if_neg hk] at q2; exact q2.elim
end
end Mi

namespace Mi
open PySem L2
section
variable {α β : Type}
def wp (E : Nat → List PV → Store → Prop) (Q : α → Store → Prop) : Res α → Prop
  | .ok a st => Q a st
  | .ex c l st => E c l st
  | .no => False
def ws (Q : Rs → Prop) : Rs → Prop
  | .no => False
  | r => Q r
abbrev noE : Nat → List PV → Store → Prop := fun _ _ _ => False
variable {E : Nat → List PV → Store → Prop} {Q Q' : α → Store → Prop} {R : Rs → Prop} {env : Ev} {st : Store}
theorem wp_get {x : Res α} (h : wp noE Q x) : ∃ a st, x = .ok a st ∧ Q a st := by
  cases x with
  | ok a st => exact ⟨a, st, rfl, h⟩
  | ex c l st => exact h.elim
  | no => exact h.elim
theorem wp_mono {E' : Nat → List PV → Store → Prop} {x : Res α} (h : wp E Q x) (k : ∀ a st, Q a st → Q' a st) (e : ∀ c l st, E c l st → E' c l st) : wp E' Q' x := by
  cases x with
  | ok a st => exact k _ _ h
  | ex c l st => exact e _ _ _ h
  | no => exact h.elim
theorem wp_imp {x : Res α} (h : wp noE Q x) (k : ∀ a st, Q a st → Q' a st) : wp E Q' x := wp_mono h k fun _ _ _ z => z.elim
@[simp] theorem wp_ok {a : α} : wp E Q (.ok a st) = Q a st := rfl
@[simp] theorem wp_ex {c : Nat} {l : List PV} : wp E Q (.ex c l st : Res α) = E c l st := rfl
@[simp] theorem wp_no : wp E Q (.no : Res α) = False := rfl
@[simp] theorem wp_bnd {m : M β} {f : β → M α} : wp E Q (bnd m f st) = wp E (fun b s => wp E Q (f b s)) (m st) := by
  unfold bnd
  cases m st <;> rfl
@[simp] theorem wp_ret {a : α} : wp E Q (ret a st) = Q a st := rfl
@[simp] theorem wp_fail : wp E Q ((fail : M α) st) = False := rfl
@[simp] theorem wp_lift {a : α} : wp E Q (lift (some a) st) = Q a st := rfl
@[simp] theorem wp_liftN : wp E Q (lift (none : Option α) st) = False := rfl
@[simp] theorem wp_liftI {c : Prop} [Decidable c] {a : α} : wp E Q (lift (if c then some a else none) st) = (c ∧ Q a st) := by
  by_cases h : c
  · rw [if_pos h]; simp [h]
  · rw [if_neg h]; simp [h]
@[simp] theorem wp_sget {f : Store → Option α} : wp E Q (sget f st) = ∃ a, f st = some a ∧ Q a st := by
  unfold sget
  cases f st with
  | none => simp
  | some a => simp
@[simp] theorem wp_ite {c : Prop} [Decidable c] {m n : M α} : wp E Q ((if c then m else n) st) = if c then wp E Q (m st) else wp E Q (n st) := by
  split <;> rfl
@[simp] theorem wp_ite2 {c : Prop} [Decidable c] {m n : Res α} : wp E Q (if c then m else n) = if c then wp E Q m else wp E Q n := by
  split <;> rfl
@[simp] theorem wp_vr {Q : PV → Store → Prop} {i : Nat} : wp E Q (vr i env st) = ∃ p, env[i]? = some (.t p) ∧ Q p st := by
  unfold vr
  cases h : env[i]? with
  | none => simp
  | some sv => cases sv <;> simp
@[simp] theorem wp_kp {Q : PV → Store → Prop} {p : PV} : wp E Q (kp p env st) = Q p st := rfl
@[simp] theorem wp_op2 {Q : PV → Store → Prop} {f : PV → PV → Option PV} {ma mb : Ev → M PV} : wp E Q (op2 f ma mb env st) = wp E (fun p s => wp E (fun q s2 => wp E Q (lift (f p q) s2)) (mb env s)) (ma env st) := by
  unfold op2; simp
@[simp] theorem wp_op1 {Q : PV → Store → Prop} {f : PV → Option PV} {ma : Ev → M PV} : wp E Q (op1 f ma env st) = wp E (fun p s => wp E Q (lift (f p) s)) (ma env st) := by
  unfold op1; simp
@[simp] theorem wp_op1S {Q : PV → Store → Prop} {f : PV → Store → Option PV} {ma : Ev → M PV} : wp E Q (op1S f ma env st) = wp E (fun p s => ∃ z, f p s = some z ∧ Q z s) (ma env st) := by
  unfold op1S; simp
@[simp] theorem wp_op2S {Q : PV → Store → Prop} {f : PV → PV → Store → Option PV} {ma mb : Ev → M PV} : wp E Q (op2S f ma mb env st) = wp E (fun p s => wp E (fun q s2 => ∃ z, f p q s2 = some z ∧ Q z s2) (mb env s)) (ma env st) := by
  unfold op2S; simp
@[simp] theorem wp_op2L {Q : SV → Store → Prop} {f : PV → PV → Store → Option (List PV)} {ma mb : Ev → M PV} : wp E Q (op2L f ma mb env st) = wp E (fun p s => wp E (fun q s2 => ∃ z, f p q s2 = some z ∧ Q (.own (.lst z)) s2) (mb env s)) (ma env st) := by
  unfold op2L; simp
@[simp] theorem wp_cbS {Q : PV → Store → Prop} {f : List PV → Store → Option PV} {ms : Ev → M (List PV)} : wp E Q (cbS f ms env st) = wp E (fun l s => ∃ z, f l s = some z ∧ Q z s) (ms env st) := by
  unfold cbS; simp
@[simp] theorem wp_cbL {Q : SV → Store → Prop} {f : List PV → Store → Option (List PV)} {ms : Ev → M (List PV)} : wp E Q (cbL f ms env st) = wp E (fun l s => ∃ z, f l s = some z ∧ Q (.own (.lst z)) s) (ms env st) := by
  unfold cbL; simp
@[simp] theorem wp_aNil {Q : List PV → Store → Prop} : wp E Q (aNil env st) = Q [] st := rfl
@[simp] theorem wp_aCons {Q : List PV → Store → Prop} {m : Ev → M PV} {ms : Ev → M (List PV)} : wp E Q (aCons m ms env st) = wp E (fun p s => wp E (fun l s2 => Q (p :: l) s2) (ms env s)) (m env st) := by
  unfold aCons; simp
@[simp] theorem wp_sizeOk {Q : List PV → Store → Prop} {l : List PV} : wp E Q (sizeOk l st) = (l.length ≤ sizeLine ∧ Q l st) := by
  unfold sizeOk
  split
  · rename_i h; simp only [h, true_and]; rfl
  · rename_i h; simp only [h, false_and]; rfl
@[simp] theorem wp_tupE {Q : PV → Store → Prop} {ms : Ev → M (List PV)} : wp E Q (tupE ms env st) = wp E (fun l s => l.length ≤ sizeLine ∧ Q (.tup l) s) (ms env st) := by
  unfold tupE
  simp only [wp_bnd, wp_ret, wp_sizeOk]
@[simp] theorem wp_lstE {Q : SV → Store → Prop} {ms : Ev → M (List PV)} : wp E Q (lstE ms env st) = wp E (fun l s => l.length ≤ sizeLine ∧ Q (.own (.lst l)) s) (ms env st) := by
  unfold lstE
  simp only [wp_bnd, wp_ret, wp_sizeOk]
@[simp] theorem wp_vP {Q : SV → Store → Prop} {m : Ev → M PV} : wp E Q (vP m env st) = wp E (fun p s => Q (.t p) s) (m env st) := by
  unfold vP; simp
@[simp] theorem wp_pV {Q : PV → Store → Prop} {m : Ev → M SV} : wp E Q (pV m env st) = wp E (fun sv s => wp E Q (frz sv s)) (m env st) := by
  unfold pV; simp
@[simp] theorem wp_frzT {Q : PV → Store → Prop} {p : PV} : wp E Q (frz (.t p) st) = Q p st := rfl
@[simp] theorem wp_frzO {Q : PV → Store → Prop} {c : Cell} : wp E Q (frz (.own c) st) = Q c.tree st := rfl
@[simp] theorem wp_bP {Q : Bool → Store → Prop} {m : Ev → M PV} : wp E Q (bP m env st) = wp E (fun p s => ∃ b, p = .bl b ∧ Q b s) (m env st) := by
  unfold bP
  simp only [wp_bnd]
  congr 1
  funext p s
  cases p <;> simp
@[simp] theorem wp_andT {Q : Bool → Store → Prop} {m n : Ev → M Bool} : wp E Q (andT m n env st) = wp E (fun b s => if b = true then wp E Q (n env s) else Q false s) (m env st) := by
  unfold andT; simp
@[simp] theorem wp_orT {Q : Bool → Store → Prop} {m n : Ev → M Bool} : wp E Q (orT m n env st) = wp E (fun b s => if b = true then Q true s else wp E Q (n env s)) (m env st) := by
  unfold orT; simp
@[simp] theorem wp_notT {Q : Bool → Store → Prop} {m : Ev → M Bool} : wp E Q (notT m env st) = wp E (fun b s => Q (!b) s) (m env st) := by
  unfold notT; simp
@[simp] theorem wp_andP {Q : PV → Store → Prop} {m n : Ev → M PV} : wp E Q (andP m n env st) = wp E (fun b s => if b = true then wp E Q (n env s) else Q (.bl false) s) (bP m env st) := by
  unfold andP; simp only [wp_bnd, wp_ite, wp_ret]
@[simp] theorem wp_orP {Q : PV → Store → Prop} {m n : Ev → M PV} : wp E Q (orP m n env st) = wp E (fun b s => if b = true then Q (.bl true) s else wp E Q (n env s)) (bP m env st) := by
  unfold orP; simp only [wp_bnd, wp_ite, wp_ret]
@[simp] theorem wp_notP {Q : PV → Store → Prop} {m : Ev → M PV} : wp E Q (notP m env st) = wp E (fun b s => Q (.bl (!b)) s) (bP m env st) := by
  unfold notP; simp only [wp_bnd, wp_ret]
@[simp] theorem wp_ifE {Q : PV → Store → Prop} {c : Ev → M Bool} {m n : Ev → M PV} : wp E Q (ifE c m n env st) = wp E (fun b s => if b = true then wp E Q (m env s) else wp E Q (n env s)) (c env st) := by
  unfold ifE; simp
@[simp] theorem wp_noex {m : M α} : wp noE Q (noex m st) = wp noE Q (m st) := by
  unfold noex
  cases m st <;> rfl
theorem wp_noexE {m : M α} (h : wp noE Q (m st)) : wp E Q (noex m st) := by
  unfold noex
  cases e : m st with
  | ok a s => rw [e] at h; exact h
  | ex c l s => rw [e] at h; exact h.elim
  | no => rw [e] at h; exact h
@[simp] theorem wp_callM {Q : SV → Store → Prop} {n : Nat} {f : List PV → M SV} {ms : Ev → M (List PV)} : wp E Q (callM n f ms env st) = wp E (fun l s => l.length = n ∧ wp E Q (f l s)) (ms env st) := by
  unfold callM
  simp only [wp_bnd, wp_ite, wp_fail]
  congr 1
  funext l s
  split <;> simp_all
@[simp] theorem wp_excM {Q : PV → Store → Prop} {c : Nat} : wp E Q (excM c env st) = Q (.exv c []) st := rfl
@[simp] theorem wp_dct0 {Q : SV → Store → Prop} : wp E Q (dct0 env st) = Q (.own (.dct [] [])) st := rfl
@[simp] theorem wp_revM {Q : SV → Store → Prop} {ma : Ev → M PV} : wp E Q (revM ma env st) = wp E (fun p s => ∃ l, drfL p s = some l ∧ Q (.own (.lst l.reverse)) s) (ma env st) := by
  unfold revM; simp
@[simp] theorem wp_cbI {Q : Itm → Store → Prop} {f : List PV → Store → Option Itm} {ms : Ev → M (List PV)} : wp E Q (cbI f ms env st) = wp E (fun l s => ∃ z, f l s = some z ∧ Q z s) (ms env st) := by
  unfold cbI; simp
@[simp] theorem wp_seqI {Q : Itm → Store → Prop} {ma : Ev → M PV} : wp E Q (seqI ma env st) = wp E (fun p s => ∃ z, itOf p s = some z ∧ Q z s) (ma env st) := by
  unfold seqI; simp
/-! ### statements -/
@[simp] theorem ws_nx {e : Ev} {s : Store} : ws R (.nx e s) = R (.nx e s) := rfl
@[simp] theorem ws_rt {e : SV} {s : Store} : ws R (.rt e s) = R (.rt e s) := rfl
@[simp] theorem ws_bk {e : Ev} {s : Store} : ws R (.bk e s) = R (.bk e s) := rfl
@[simp] theorem ws_ct {e : Ev} {s : Store} : ws R (.ct e s) = R (.ct e s) := rfl
@[simp] theorem ws_ex {c : Nat} {l : List PV} {e : Ev} {s : Store} : ws R (.ex c l e s) = R (.ex c l e s) := rfl
@[simp] theorem ws_no : ws R .no = False := rfl
theorem ws_mono {R R' : Rs → Prop} {x : Rs} (h : ws R x) (k : ∀ r, R r → R' r) : ws R' x := by
  cases x <;> first | exact h.elim | exact k _ h
@[simp] theorem ws_expr {m : Ev → M α} {k : α → SM} : ws R (exprS m k env st) = wp (fun c l s => R (.ex c l env s)) (fun a s => ws R (k a env s)) (m env st) := by
  unfold exprS
  cases m env st <;> rfl
def thenR (n : SM) (R : Rs → Prop) : Rs → Prop
  | .nx e s => ws R (n e s)
  | r => R r
@[simp] theorem thenR_nx {n : SM} {e : Ev} {s : Store} : thenR n R (.nx e s) = ws R (n e s) := rfl
@[simp] theorem thenR_rt {n : SM} {e : SV} {s : Store} : thenR n R (.rt e s) = R (.rt e s) := rfl
@[simp] theorem thenR_bk {n : SM} {e : Ev} {s : Store} : thenR n R (.bk e s) = R (.bk e s) := rfl
@[simp] theorem thenR_ct {n : SM} {e : Ev} {s : Store} : thenR n R (.ct e s) = R (.ct e s) := rfl
@[simp] theorem thenR_ex {n : SM} {c : Nat} {l : List PV} {e : Ev} {s : Store} : thenR n R (.ex c l e s) = R (.ex c l e s) := rfl
@[simp] theorem ws_seq {m n : SM} : ws R (seqS m n env st) = ws (thenR n R) (m env st) := by
  unfold seqS
  cases m env st <;> rfl
@[simp] theorem ws_nxS : ws R (nxS env st) = R (.nx env st) := rfl
@[simp] theorem ws_brkS : ws R (brkS env st) = R (.bk env st) := rfl
@[simp] theorem ws_contS : ws R (contS env st) = R (.ct env st) := rfl
@[simp] theorem ws_retN : ws R (retN env st) = R (.rt (.t .non) st) := rfl
@[simp] theorem ws_retS {m : Ev → M SV} : ws R (retS m env st) = wp (fun c l s => R (.ex c l env s)) (fun sv s => R (.rt sv s)) (m env st) := by
  exact ws_expr (k := fun sv _ st => .rt sv st)
@[simp] theorem ws_ifS {t : Ev → M Bool} {m n : SM} : ws R (ifS t m n env st) = wp (fun c l s => R (.ex c l env s)) (fun b s => if b = true then ws R (m env s) else ws R (n env s)) (t env st) := by
  refine (ws_expr (k := fun b => if b = true then m else n)).trans ?_
  congr 1
  funext b s
  split <;> rfl
@[simp] theorem ws_asgT {m : Ev → M PV} {f : PV → Ev → Option Ev} : ws R (asgT m f env st) = wp (fun c l s => R (.ex c l env s)) (fun p s => ∃ e, f p env = some e ∧ R (.nx e s)) (m env st) := by
  refine (ws_expr (k := fun p env st => match f p env with
    | some env' => .nx env' st
    | none => .no)).trans ?_
  congr 1
  funext p s
  cases h : f p env <;> simp [h]
@[simp] theorem nmT_eq {i : Nat} {p : PV} : nmT i p env = some (env.set i (.t p)) := rfl
@[simp] theorem ws_setV {i : Nat} {m : Ev → M SV} : ws R (setV i m env st) = wp (fun c l s => R (.ex c l env s)) (fun sv s => sv ≠ .un ∧ R (.nx (env.set i sv) s)) (m env st) := by
  refine (ws_expr (k := fun (sv : SV) env st => match sv with
    | SV.un => Rs.no
    | sv => Rs.nx (env.set i sv) st)).trans ?_
  congr 1
  funext sv s
  cases sv <;> simp
@[simp] theorem ws_parS {i j : Nat} {ms : Ev → M (List PV)} : ws R (parS i j ms env st) = wp (fun c l s => R (.ex c l env s)) (fun l s => ∃ p q, l = [p, q] ∧ R (.nx ((env.set i (.t p)).set j (.t q)) s)) (ms env st) := by
  refine (ws_expr (k := fun l env st => match l with
    | [p, q] => .nx ((env.set i (.t p)).set j (.t q)) st
    | _ => .no)).trans ?_
  congr 1
  funext l s
  match l with
  | [] => simp
  | [p] => simp
  | [p, q] => exact propext ⟨fun h => ⟨p, q, rfl, h⟩, fun ⟨_, _, e, h⟩ => by cases e; exact h⟩
  | p :: q :: r :: t => simp
theorem ws_retV {i : Nat} {p : PV} (h : env[i]? = some (.t p)) : ws R (retV i env st) = R (.rt (.t p) st) := by
  unfold retV; rw [h]; rfl
theorem ws_retO {i : Nat} {c : Cell} (h : env[i]? = some (.own c)) : ws R (retV i env st) = R (.rt (.own c) st) := by
  unfold retV; rw [h]; rfl
/-- a call's value -/
def endR (E : Nat → List PV → Store → Prop) (Q : SV → Store → Prop) : Rs → Prop
  | .nx _ s => Q (.t .non) s
  | .rt sv s => Q sv s
  | .ex c l _ s => E c l s
  | _ => False
@[simp] theorem endR_nx {Q : SV → Store → Prop} {e : Ev} {s : Store} : endR E Q (.nx e s) = Q (.t .non) s := rfl
@[simp] theorem endR_rt {Q : SV → Store → Prop} {sv : SV} {s : Store} : endR E Q (.rt sv s) = Q sv s := rfl
@[simp] theorem endR_ex {Q : SV → Store → Prop} {c : Nat} {l : List PV} {e : Ev} {s : Store} : endR E Q (.ex c l e s) = E c l s := rfl
theorem wp_run {Q : SV → Store → Prop} {n : Nat} {m : SM} {l : List PV} : wp E Q (runF n m l st) = ws (endR E Q) (m (envOf n l) st) := by
  unfold runF
  cases m (envOf n l) st <;> rfl
/-! ### loops -/
theorem ws_while {c : Ev → M Bool} {b : SM} (I : Ev → Store → Prop) (μ : Ev → Store → Nat) (h : ∀ e s, I e s → wp noE (fun t s1 => if t = true then ws (fun r => match r with
      | .nx e2 s2 => I e2 s2 ∧ μ e2 s2 < μ e s
      | .ct e2 s2 => I e2 s2 ∧ μ e2 s2 < μ e s
      | .bk e2 s2 => R (.nx e2 s2)
      | r => R r) (b e s1) else R (.nx e s1)) (c e s)) (h0 : I env st) : ws R (whileS c b env st) := by
  have key : ∀ n e s, μ e s < n → I e s → ∃ r, whileF c b n e s = r ∧ ws R r := by
    intro n
    induction n with
    | zero => intro e s hn; omega
    | succ n ih =>
      intro e s hn hI
      have z := h e s hI
      unfold whileF
      cases ec : c e s with
      | no => rw [ec] at z; exact z.elim
      | ex d l s1 => rw [ec] at z; exact z.elim
      | ok t s1 =>
        rw [ec] at z
        cases t with
        | false => exact ⟨_, rfl, by simpa using z⟩
        | true =>
          simp only [wp_ok, if_true] at z
          show ∃ r, (match b e s1 with
            | .nx env2 st2 => whileF c b n env2 st2
            | .ct env2 st2 => whileF c b n env2 st2
            | .bk env2 st2 => .nx env2 st2
            | r => r) = r ∧ ws R r
          cases eb : b e s1 with
          | no => rw [eb] at z; exact z.elim
          | nx e2 s2 => rw [eb] at z; exact ih e2 s2 (by have := z.2; omega) z.1
          | ct e2 s2 => rw [eb] at z; exact ih e2 s2 (by have := z.2; omega) z.1
          | bk e2 s2 => rw [eb] at z; exact ⟨_, rfl, z⟩
          | rt sv s2 => rw [eb] at z; exact ⟨_, rfl, z⟩
          | ex d l e2 s2 => rw [eb] at z; exact ⟨_, rfl, z⟩
  obtain ⟨r, e, hr⟩ := key (μ env st + 1) env st (Nat.lt_succ_self _) h0
  rw [whileS_eq e (fun z => by rw [z] at hr; exact hr.elim)]
  exact hr
theorem ws_forL {J : Itm} {f : PV → Ev → Option Ev} {b : SM} (I : Nat → Ev → Store → Prop)
    (h : ∀ i e s, i < J.n → I i e s → ∃ p e1, J.item i s = some p ∧ f p e = some e1 ∧ ws (fun r => match r with
      | .nx e2 s2 => I (i + 1) e2 s2
      | .ct e2 s2 => I (i + 1) e2 s2
      | .bk e2 s2 => R (.nx e2 s2)
      | r => R r) (b e1 s)) (hf : ∀ e s, I J.n e s → J.fin s = true ∧ R (.nx e s)) :
    ∀ k i e s, i + k = J.n → I i e s → ws R (forL J f b k e s) := by
  intro k
  induction k with
  | zero =>
    intro i e s hk hI
    have : i = J.n := by omega
    subst this
    obtain ⟨h1, h2⟩ := hf e s hI
    unfold forL
    rw [if_pos h1]
    exact h2
  | succ k ih =>
    intro i e s hk hI
    obtain ⟨p, e1, h1, h2, h3⟩ := h i e s (by omega) hI
    unfold forL
    have hi : J.n - (k + 1) = i := by omega
    rw [hi, h1]
    simp only [h2]
    cases eb : b e1 s with
    | no => rw [eb] at h3; exact h3.elim
    | nx e2 s2 => rw [eb] at h3; exact ih (i + 1) e2 s2 (by omega) h3
    | ct e2 s2 => rw [eb] at h3; exact ih (i + 1) e2 s2 (by omega) h3
    | bk e2 s2 => rw [eb] at h3; exact h3
    | rt sv s2 => rw [eb] at h3; exact h3
    | ex d l e2 s2 => rw [eb] at h3; exact h3
theorem ws_for {it : Ev → M Itm} {f : PV → Ev → Option Ev} {b : SM} (h : wp noE (fun J s => ∃ I : Nat → Ev → Store → Prop, I 0 env s ∧ (∀ i e s, i < J.n → I i e s → ∃ p e1, J.item i s = some p ∧ f p e = some e1 ∧ ws (fun r => match r with
      | .nx e2 s2 => I (i + 1) e2 s2
      | .ct e2 s2 => I (i + 1) e2 s2
      | .bk e2 s2 => R (.nx e2 s2)
      | r => R r) (b e1 s)) ∧ ∀ e s, I J.n e s → J.fin s = true ∧ R (.nx e s)) (it env st)) : ws R (forS it f b env st) := by
  refine (ws_expr (k := fun I => forL I f b I.n)).mpr ?_
  refine wp_imp h fun J s ⟨I, h0, h1, h2⟩ => ws_forL I h1 h2 J.n 0 env s (by omega) h0
/-- a comprehension -/
theorem wp_lc {it : Ev → M Itm} {tgt : PV → Ev → Option Ev} {tt : Ev → M Bool} {te : Ev → M PV} {own : List Nat} {Q : SV → Store → Prop}
    (h : wp E (fun J s => ∃ I : Nat → List PV → Store → Prop, I 0 [] s ∧ (∀ i acc s, i < J.n → I i acc s → ∃ p e1, J.item i s = some p ∧ tgt p (wipeE env own) = some e1 ∧
      wp noE (fun t s1 => if t = true then wp noE (fun x s2 => acc.length < sizeLine ∧ I (i + 1) (acc ++ [x]) s2) (te e1 s1) else I (i + 1) acc s1) (tt e1 s)) ∧ ∀ acc s, I J.n acc s → J.fin s = true ∧ Q (.own (.lst acc)) s) (it env st)) :
    wp E Q (lcM it tgt tt te own env st) := by
  unfold lcM
  rw [wp_bnd]
  refine wp_mono h (fun J s ⟨I, h0, h1, h2⟩ => ?_) fun _ _ _ z => z
  rw [wp_bnd]
  have key : ∀ k i acc s, i + k = J.n → I i acc s → wp E (fun l s => wp E Q (ret (SV.own (.lst l)) s)) (lcLoop J tgt tt te (wipeE env own) k acc s) := by
    intro k
    induction k with
    | zero =>
      intro i acc s hk hI
      have : i = J.n := by omega
      subst this
      obtain ⟨q1, q2⟩ := h2 acc s hI
      unfold lcLoop
      rw [if_pos q1]
      exact q2
    | succ k ih =>
      intro i acc s hk hI
      obtain ⟨p, e1, q1, q2, q3⟩ := h1 i acc s (by omega) hI
      unfold lcLoop
      have hi : J.n - (k + 1) = i := by omega
      rw [hi, wp_bnd, wp_sget]
      refine ⟨p, q1, ?_⟩
      rw [wp_bnd, q2, wp_lift, wp_bnd]
      refine wp_noexE (wp_mono q3 (fun t s1 q4 => ?_) fun _ _ _ z => z)
      cases t with
      | false => simp only [Bool.false_eq_true, if_false] at q4 ⊢; exact ih (i + 1) acc s1 (by omega) q4
      | true =>
        simp only [if_true] at q4 ⊢
        rw [wp_bnd]
        refine wp_noexE (wp_mono q4 (fun x s2 q5 => ?_) fun _ _ _ z => z)
        rw [if_pos q5.1]
        exact ih (i + 1) (acc ++ [x]) s2 (by omega) q5.2
  exact key J.n 0 [] s (by omega) h0
end
/-! ### values -/
@[simp] theorem addI_i {i j : Int} : addI (.int i) (.int j) = some (.int (i + j)) := rfl
@[simp] theorem subI_i {i j : Int} : subI (.int i) (.int j) = some (.int (i - j)) := rfl
@[simp] theorem mulI_i {i j : Int} : mulI (.int i) (.int j) = if mulG i j = true then some (.int (i * j)) else none := rfl
@[simp] theorem divI_i {i j : Int} : divI (.int i) (.int j) = if decide (0 < j) = true then some (.int (i / j)) else none := rfl
@[simp] theorem modI_i {i j : Int} : modI (.int i) (.int j) = if decide (0 < j) = true then some (.int (i % j)) else none := rfl
@[simp] theorem negI_i {i : Int} : negI (.int i) = some (.int (-i)) := rfl
@[simp] theorem ltI_i {i j : Int} : ltI (.int i) (.int j) = some (.bl (decide (i < j))) := rfl
@[simp] theorem leI_i {i j : Int} : leI (.int i) (.int j) = some (.bl (decide (i ≤ j))) := rfl
@[simp] theorem gtI_i {i j : Int} : gtI (.int i) (.int j) = some (.bl (decide (j < i))) := rfl
@[simp] theorem geI_i {i j : Int} : geI (.int i) (.int j) = some (.bl (decide (j ≤ i))) := rfl
@[simp] theorem absF_i {i : Int} {st : Store} : absF [.int i] st = some (.int (if i < 0 then -i else i)) := rfl
@[simp] theorem max2F_i {i j : Int} {st : Store} : max2F [.int i, .int j] st = some (.int (if j > i then j else i)) := rfl
@[simp] theorem min2F_i {i j : Int} {st : Store} : min2F [.int i, .int j] st = some (.int (if j < i then j else i)) := rfl
theorem eqv_int {i j : Int} : PyData.eqv (.int i) (.int j) = decide (i = j) := by
  by_cases h : i = j <;> simp [PyData.eqv, h]
@[simp] theorem eqP_i {i j : Int} : eqP (.int i) (.int j) = some (.bl (decide (i = j))) := by
  unfold eqP toD
  simp only
  rw [if_pos ⟨rfl, rfl⟩, eqv_int]
@[simp] theorem neP_i {i j : Int} : neP (.int i) (.int j) = some (.bl (!decide (i = j))) := by
  unfold neP toD
  simp only
  rw [if_pos ⟨rfl, rfl⟩, eqv_int]
end Mi

namespace Mi
open PySem L2
section
variable {α β : Type}
variable {E : Nat → List PV → Store → Prop} {R : Rs → Prop} {env : Ev} {st : Store}
abbrev xR (R : Rs → Prop) (env : Ev) : Nat → List PV → Store → Prop := fun c l s => R (.ex c l env s)
@[simp] theorem ws_setCell {n : Nat} {f : List PV → Option (List PV)} : ws R (setCell n f env st) = ∃ l l', st[n]? = some (.lst l) ∧ f l = some l' ∧ R (.nx env (st.set n (.lst l'))) := by
  unfold setCell
  cases h : st[n]? with
  | none => simp
  | some c =>
    cases c with
    | lst l => cases h2 : f l <;> simp [h2]
    | _ => simp
@[simp] theorem ws_refS {p : PV} {f : Nat → SM} : ws R (refS p f env st) = ∃ n, p = .ref n ∧ ws R (f n env st) := by
  cases p with
  | ref n => exact propext ⟨fun h => ⟨n, rfl, h⟩, fun ⟨_, e, h⟩ => by cases e; exact h⟩
  | _ => exact propext ⟨fun h => h.elim, fun ⟨_, e, _⟩ => by cases e⟩
@[simp] theorem ws_refL {p : PV} {f : Nat → SM} : ws R (refL p f env st) = ∃ n l, p = .ref n ∧ st[n]? = some (.lst l) ∧ ws R (f n env st) := by
  cases p with
  | ref n =>
    show ws R (match st[n]? with
      | some (.lst _) => f n env st
      | _ => .no) = _
    cases h : st[n]? with
    | none => exact propext ⟨fun h => h.elim, fun ⟨_, _, e, h2, _⟩ => by cases e; rw [h] at h2; cases h2⟩
    | some c =>
      cases c with
      | lst l => exact propext ⟨fun h2 => ⟨n, l, rfl, h, h2⟩, fun ⟨_, _, e, _, h2⟩ => by cases e; exact h2⟩
      | _ => exact propext ⟨fun h => h.elim, fun ⟨_, _, e, h2, _⟩ => by cases e; rw [h] at h2; cases h2⟩
  | _ => exact propext ⟨fun h => h.elim, fun ⟨_, _, e, _⟩ => by cases e⟩
@[simp] theorem ws_setIxR {me mo mi : Ev → M PV} : ws R (setIxR me mo mi env st) = wp (xR R env) (fun p s => wp (xR R env) (fun h s => ∃ n, h = .ref n ∧ wp (xR R env) (fun q s => ∃ k l j, q = .int k ∧ s[n]? = some (.lst l) ∧ ixN l.length k = some j ∧ R (.nx env (s.set n (.lst (l.set j p))))) (mi env s)) (mo env s)) (me env st) := by
  unfold setIxR
  simp only [ws_expr, ws_refS]
  congr 1; funext p s; congr 1; funext h s; congr 1; funext n; congr 1; congr 1; funext q s
  cases q with
  | int k =>
    simp only [ws_setCell, Option.map_eq_some_iff]
    apply propext
    constructor
    · rintro ⟨l, l', h1, ⟨j, h2, rfl⟩, h3⟩; exact ⟨k, l, j, rfl, h1, h2, h3⟩
    · rintro ⟨k', l, j, e, h1, h2, h3⟩; cases e; exact ⟨l, _, h1, ⟨j, h2, rfl⟩, h3⟩
  | _ => exact propext ⟨fun h => h.elim, fun ⟨_, _, _, e, _⟩ => by cases e⟩
theorem ws_augIxR {f : Int → Int → Int} {mo mi me : Ev → M PV} (h : wp (xR R env) (fun h s => ∃ n l, h = .ref n ∧ s[n]? = some (.lst l) ∧ wp (xR R env) (fun q s => ∃ k v, q = .int k ∧ ((drfL (.ref n) s).bind fun l => atI l k) = some (.int v) ∧
      wp (xR R env) (fun p s => ∃ j l i, p = .int j ∧ s[n]? = some (.lst l) ∧ ixN l.length k = some i ∧ R (.nx env (s.set n (.lst (l.set i (.int (f v j))))))) (me env s)) (mi env s)) (mo env st)) : ws R (augIxR f mo mi me env st) := by
  unfold augIxR
  rw [ws_expr]
  refine wp_mono h (fun h s ⟨n, l, e, h1, h2⟩ => ?_) fun _ _ _ z => z
  rw [ws_refL]
  refine ⟨n, l, e, h1, ?_⟩
  rw [ws_expr]
  refine wp_mono h2 (fun q s ⟨k, v, e, h1, h2⟩ => ?_) fun _ _ _ z => z
  subst e
  show ws R (match (drfL (.ref n) s).bind fun l => atI l k with
    | some (.int v) => exprS me (fun p => match p with
      | .int j => setCell n fun l => (ixN l.length k).map fun i => l.set i (.int (f v j))
      | _ => fun _ _ => .no) env s
    | _ => .no)
  rw [h1]
  show ws R (exprS me _ env s)
  rw [ws_expr]
  refine wp_mono h2 (fun p s ⟨j, l, i, e, h1, h2, h3⟩ => ?_) fun _ _ _ z => z
  subst e
  show ws R (setCell n _ env s)
  rw [ws_setCell]
  exact ⟨l, _, h1, by rw [h2]; rfl, h3⟩
theorem ws_cell {i : Nat} {m : SM} (h : ws (fun r => match r with
    | .nx e s => ∃ c, e[i]? = some (.own c) ∧ c.live = true ∧ R (.nx (e.set i (.t (.ref s.length))) (s ++ [c]))
    | r => R r) (m env st)) : ws R (cellS i m env st) := by
  unfold cellS
  cases e : m env st with
  | nx e1 s1 =>
    rw [e] at h
    obtain ⟨c, h1, h2, h3⟩ := h
    simp only [h1, h2, if_true]
    exact h3
  | no => rw [e] at h; exact h
  | rt sv s => rw [e] at h; exact h
  | bk e1 s => rw [e] at h; exact h
  | ct e1 s => rw [e] at h; exact h
  | ex c l e1 s => rw [e] at h; exact h
end
section
variable {R : Rs → Prop} {env : Ev} {st : Store}
@[simp] theorem ws_retVs {i : Nat} : ws R (retV i env st) = ∃ sv, env[i]? = some sv ∧ sv ≠ .un ∧ R (.rt sv st) := by
  unfold retV
  cases h : env[i]? with
  | none => exact propext ⟨fun h => h.elim, fun ⟨_, e, _⟩ => by cases e⟩
  | some sv =>
    cases sv with
    | un => exact propext ⟨fun h => h.elim, fun ⟨_, e, ne, _⟩ => by cases e; exact (ne rfl).elim⟩
    | t p => exact propext ⟨fun h => ⟨_, rfl, (fun z => SV.noConfusion z), h⟩, fun ⟨_, e, _, h⟩ => by cases e; exact h⟩
    | own c => exact propext ⟨fun h => ⟨_, rfl, (fun z => SV.noConfusion z), h⟩, fun ⟨_, e, _, h⟩ => by cases e; exact h⟩
end
/-! ### sizes -/
theorem mulG_of {i j : Int} (a b : Nat) (hi : i.natAbs < 2 ^ a) (hj : j.natAbs < 2 ^ b) (h : a + b ≤ 134000000) : mulG i j = true := by
  have key : ∀ (n c : Nat), n < 2 ^ c → n.log2 ≤ c - 1 ∧ (n.log2 < c ∨ n = 0) := fun n c hn => by
    by_cases h0 : n = 0
    · subst h0; exact ⟨by simp, .inr rfl⟩
    · have : n.log2 < c := (Nat.log2_lt h0).mpr hn
      exact ⟨by omega, .inl this⟩
  have k1 := key _ _ hi
  have k2 := key _ _ hj
  have a0 : a = 0 → i.natAbs = 0 := fun z => by subst z; simpa using hi
  have b0 : b = 0 → j.natAbs = 0 := fun z => by subst z; simpa using hj
  unfold mulG
  apply decide_eq_true
  rcases k1.2 with x | x <;> rcases k2.2 with y | y
  · omega
  · rw [y]; simp; omega
  · rw [x]; simp; omega
  · rw [x, y]; simp
theorem mulG_s {i j : Int} (hi : -1000000000000 < i ∧ i < 1000000000000) (hj : -1000000000000 < j ∧ j < 1000000000000) : mulG i j = true := mulG_of 40 40 (by omega) (by omega) (by decide)
theorem mulG_100 {i j : Int} (hi : i.natAbs < 2 ^ 300) (hj : j.natAbs < 2 ^ 300) : mulG i j = true := mulG_of 300 300 hi hj (by decide)
@[simp] theorem lenF_lst {l : List PV} {st : Store} : lenF [.lst l] st = some (.int l.length) := rfl
@[simp] theorem lenF_tup {l : List PV} {st : Store} : lenF [.tup l] st = some (.int l.length) := rfl
@[simp] theorem lenF_rd {l : List PV} {st : Store} : lenF [.rd l] st = some (.int l.length) := rfl
theorem lenF_ref {n : Nat} {l : List PV} {st : Store} (h : st[n]? = some (.lst l)) : lenF [.ref n] st = some (.int l.length) := by
  unfold lenF drf
  simp [h]
theorem rng1F_ok {j : Int} {st : Store} (h0 : 0 ≤ j) (h1 : j < 4611686018427387904) : rng1F [.int j] st = some (rngItm 0 j.toNat) := by
  show (if _ then _ else _) = _
  rw [if_pos (by unfold rngB; simp; omega)]
@[simp] theorem rngItm_n {a : Int} {n : Nat} : (rngItm a n).n = n := rfl
@[simp] theorem rngItm_item {a : Int} {n i : Nat} {s : Store} : (rngItm a n).item i s = some (.int (a + i)) := rfl
@[simp] theorem rngItm_fin {a : Int} {n : Nat} {s : Store} : (rngItm a n).fin s = true := rfl
theorem eqv_bool {i j : Bool} : PyData.eqv (.bool i) (.bool j) = decide (i = j) := by cases i <;> cases j <;> rfl
@[simp] theorem eqP_b {i j : Bool} : eqP (.bl i) (.bl j) = some (.bl (decide (i = j))) := by
  unfold eqP toD
  simp only
  rw [if_pos ⟨rfl, rfl⟩, eqv_bool]
@[simp] theorem neP_b {i j : Bool} : neP (.bl i) (.bl j) = some (.bl (!decide (i = j))) := by
  unfold neP toD
  simp only
  rw [if_pos ⟨rfl, rfl⟩, eqv_bool]
theorem eqv_pair {a b c d : Int} : PyData.eqv (.tuple [.int a, .int b]) (.tuple [.int c, .int d]) = (decide (a = c) && decide (b = d)) := by
  by_cases h : a = c <;> by_cases h2 : b = d <;> simp [PyData.eqv, PyData.eqvAll, h, h2]
@[simp] theorem eqP_pair {a b c d : Int} : eqP (.tup [.int a, .int b]) (.tup [.int c, .int d]) = some (.bl (decide (a = c) && decide (b = d))) := by
  simp only [eqP, toD, toDs, Option.bind_some, Option.map_some]
  rw [if_pos ⟨rfl, rfl⟩, eqv_pair]
@[simp] theorem tyk_bb {a b : String} : (TyK.b a == TyK.b b) = (a == b) := by
  by_cases h : a = b
  · subst h; simp
  · rw [beq_eq_false_iff_ne.mpr h, beq_eq_false_iff_ne.mpr (fun z => h (TyK.b.inj z))]
@[simp] theorem tyk_bx {a : String} {c : Nat} : (TyK.b a == TyK.x c) = false := beq_eq_false_iff_ne.mpr (fun z => by cases z)
@[simp] theorem tyk_bo {a : String} {c : Nat} : (TyK.b a == TyK.o c) = false := beq_eq_false_iff_ne.mpr (fun z => by cases z)
@[simp] theorem tyk_xb {a : String} {c : Nat} : (TyK.x c == TyK.b a) = false := beq_eq_false_iff_ne.mpr (fun z => by cases z)
@[simp] theorem tyk_ob {a : String} {c : Nat} : (TyK.o c == TyK.b a) = false := beq_eq_false_iff_ne.mpr (fun z => by cases z)
@[simp] theorem tyk_xo {a c : Nat} : (TyK.x c == TyK.o a) = false := beq_eq_false_iff_ne.mpr (fun z => by cases z)
@[simp] theorem tyk_ox {a c : Nat} : (TyK.o c == TyK.x a) = false := beq_eq_false_iff_ne.mpr (fun z => by cases z)
@[simp] theorem tyk_xx {a c : Nat} : (TyK.x c == TyK.x a) = (c == a) := by
  by_cases h : c = a
  · subst h; simp
  · rw [beq_eq_false_iff_ne.mpr h, beq_eq_false_iff_ne.mpr (fun z => h (TyK.x.inj z))]
@[simp] theorem tyk_oo {a c : Nat} : (TyK.o c == TyK.o a) = (c == a) := by
  by_cases h : c = a
  · subst h; simp
  · rw [beq_eq_false_iff_ne.mpr h, beq_eq_false_iff_ne.mpr (fun z => h (TyK.o.inj z))]
/-! ### the bag -/
/-- the bag at cell n -/
def BagAt (st : Store) (n : Nat) : Prop := ∃ (x0 x1 x2 : Int) (cs : List Int), st[n]? = some (.lst [.int x0, .int x1, .int x2, .lst (cs.map PV.int)]) ∧ 0 ≤ x0 ∧ 0 ≤ x1 ∧ x1 < 2147483647 ∧ 0 ≤ x2 ∧ (∀ c ∈ cs, 0 ≤ c) ∧ cs.length ≤ 63
@[simp] theorem ixF_ref {n : Nat} {i : Int} {l : List PV} {st : Store} (h : st[n]? = some (.lst l)) : ixF (.ref n) (.int i) st = atI l i := by
  simp [ixF, drf, h]
@[simp] theorem ixF_lst {i : Int} {l : List PV} {st : Store} : ixF (.lst l) (.int i) st = atI l i := by simp [ixF, drf]
@[simp] theorem ixF_tup {i : Int} {l : List PV} {st : Store} : ixF (.tup l) (.int i) st = atI l i := by simp [ixF, drf]
theorem atI_nat {α : Type} {l : List α} {i : Nat} : atI l (i : Int) = l[i]? := by
  unfold atI ixN
  by_cases h : i < l.length
  · rw [if_pos (by omega), if_pos (by omega)]; simp
  · rw [if_pos (by omega), if_neg (by omega)]; simp; omega
@[simp] theorem atI_0 {α : Type} {a : α} {l : List α} : atI (a :: l) 0 = some a := atI_nat (i := 0)
@[simp] theorem atI_1 {α : Type} {a b : α} {l : List α} : atI (a :: b :: l) 1 = some b := atI_nat (i := 1)
@[simp] theorem atI_2 {α : Type} {a b c : α} {l : List α} : atI (a :: b :: c :: l) 2 = some c := atI_nat (i := 2)
@[simp] theorem atI_3 {α : Type} {a b c d : α} {l : List α} : atI (a :: b :: c :: d :: l) 3 = some d := atI_nat (i := 3)
theorem atI_mem {α : Type} {l : List α} {i : Int} (h0 : 0 ≤ i) (h1 : i < l.length) : ∃ c, c ∈ l ∧ atI l i = some c := by
  obtain ⟨k, rfl⟩ := Int.eq_ofNat_of_zero_le h0
  refine ⟨l[k]'(by omega), List.getElem_mem _, ?_⟩
  rw [atI_nat, List.getElem?_eq_getElem (by omega)]
@[simp] theorem tree_lst {l : List PV} : (Cell.lst l).tree = .lst l := rfl
@[simp] theorem tree_dct {k : List Key} {l : List PV} : (Cell.dct k l).tree = .dct k l := rfl
@[simp] theorem tree_ins {k : Nat} {l : List PV} : (Cell.ins k l).tree = .obj k l := rfl
theorem atI_map {l : List Int} {i : Int} (h0 : 0 ≤ i) (h1 : i < l.length) : ∃ c, c ∈ l ∧ atI (l.map PV.int) i = some (.int c) := by
  obtain ⟨k, rfl⟩ := Int.eq_ofNat_of_zero_le h0
  refine ⟨l[k]'(by omega), List.getElem_mem _, ?_⟩
  rw [atI_nat, List.getElem?_map, List.getElem?_eq_getElem (by omega)]; rfl
end Mi
namespace Mi
open PySem L2
section
variable {E : Nat → List PV → Store → Prop} {env : Ev} {st : Store}
@[simp] theorem wp_oNone {Q : Option Int → Store → Prop} : wp E Q (oNone env st) = Q none st := rfl
@[simp] theorem wp_oSome {Q : Option Int → Store → Prop} {m : Ev → M PV} : wp E Q (oSome m env st) = wp E (fun p s => ∃ i, p = .int i ∧ Q (some i) s) (m env st) := by
  unfold oSome
  simp only [wp_bnd]
  congr 1
  funext p s
  cases p <;> simp
@[simp] theorem wp_slRd {Q : SV → Store → Prop} {ma : Ev → M PV} {ml mh : Ev → M (Option Int)} : wp E Q (slRd ma ml mh env st) = wp E (fun p s => wp E (fun l s => wp E (fun h s => ∃ xs, p = .rd xs ∧ Q (.own (.lst (cutP xs l h))) s) (mh env s)) (ml env s)) (ma env st) := by
  unfold slRd
  simp only [wp_bnd]
  congr 1; funext p s; congr 1; funext l s; congr 1; funext h s
  cases p <;> simp
@[simp] theorem wp_slL {Q : SV → Store → Prop} {ma : Ev → M PV} {ml mh : Ev → M (Option Int)} : wp E Q (slL ma ml mh env st) = wp E (fun p s => wp E (fun l s => wp E (fun h s => ∃ xs, drfL p s = some xs ∧ Q (.own (.lst (cutP xs l h))) s) (mh env s)) (ml env s)) (ma env st) := by
  unfold slL
  simp
@[simp] theorem wp_yesT {Q : Bool → Store → Prop} : wp E Q (yesT env st) = Q true st := rfl
end
end Mi

namespace Mi
open PySem L2
section
variable {α β : Type}
variable {E : Nat → List PV → Store → Prop} {R : Rs → Prop} {env : Ev} {st : Store}
def catchR (hs : List HdM) (R : Rs → Prop) : Rs → Prop
  | .ex c l e s => ws R (catchS hs c l e s)
  | r => R r
theorem ws_try {m : SM} {hs : List HdM} : ws R (tryS m hs env st) = ws (catchR hs R) (m env st) := by
  unfold tryS
  cases m env st <;> rfl
@[simp] theorem catchR_nx {hs : List HdM} {e : Ev} {s : Store} : catchR hs R (.nx e s) = R (.nx e s) := rfl
@[simp] theorem catchR_rt {hs : List HdM} {e : SV} {s : Store} : catchR hs R (.rt e s) = R (.rt e s) := rfl
@[simp] theorem catchR_ex {hs : List HdM} {c : Nat} {l : List PV} {e : Ev} {s : Store} : catchR hs R (.ex c l e s) = ws R (catchS hs c l e s) := rfl
theorem ws_catchT {h : HdM} {hs : List HdM} {c : Nat} {l : List PV} (e : h.cs c = some true) : ws R (catchS (h :: hs) c l env st) = ws R (delR h.ix (h.m (putM h.ix (.exv c l) env) st)) := by
  unfold catchS; rw [e]
theorem ws_catchF {h : HdM} {hs : List HdM} {c : Nat} {l : List PV} (e : h.cs c = some false) : ws R (catchS (h :: hs) c l env st) = ws R (catchS hs c l env st) := by
  rw [catchS, e]
@[simp] theorem ws_delR {i : Option Nat} {r : Rs} : ws R (delR i r) = ws (fun r => match r with
    | .nx e s => R (.nx (delM i e) s)
    | .rt sv s => R (.rt sv s)
    | .bk e s => R (.bk (delM i e) s)
    | .ct e s => R (.ct (delM i e) s)
    | _ => False) r := by
  cases r <;> rfl
@[simp] theorem ws_raise0 {c : Nat} : ws R (raise0S c env st) = R (.ex c [] env st) := rfl
@[simp] theorem ws_raise1 {c : Nat} {ms : Ev → M (List PV)} : ws R (raise1S c ms env st) = wp (xR R env) (fun l s => ∃ p, l = [p] ∧ R (.ex c [p] env s)) (ms env st) := by
  refine (ws_expr (k := fun l env st => match l with
    | [p] => .ex c [p] env st
    | _ => .no)).trans ?_
  congr 1
  funext l s
  match l with
  | [] => simp
  | [p] => exact propext ⟨fun h => ⟨p, rfl, h⟩, fun ⟨_, e, h⟩ => by cases e; exact h⟩
  | p :: q :: t => simp
@[simp] theorem wp_slS {Q : PV → Store → Prop} {ma : Ev → M PV} {ml mh : Ev → M (Option Int)} : wp E Q (slS ma ml mh env st) = wp E (fun p s => wp E (fun l s => wp E (fun h s => ∃ z, p = .str z ∧ z.length ≤ sizeLine ∧ Q (.str (cutS z l h)) s) (mh env s)) (ml env s)) (ma env st) := by
  unfold slS
  simp only [wp_bnd]
  congr 1; funext p s; congr 1; funext l s; congr 1; funext h s
  cases p with
  | str z =>
    show wp E Q ((if z.length ≤ sizeLine then ret (.str (cutS z l h)) else fail : M PV) s) = _
    by_cases hz : z.length ≤ sizeLine
    · rw [if_pos hz]
      exact propext ⟨fun h => ⟨z, rfl, hz, h⟩, fun ⟨_, e, _, h⟩ => by cases e; exact h⟩
    · rw [if_neg hz]
      exact propext ⟨fun h => h.elim, fun ⟨_, e, h, _⟩ => by cases e; exact hz h⟩
  | _ => exact propext ⟨fun h => h.elim, fun ⟨_, e, _⟩ => by cases e⟩
end
/-- equal data -/
def Da (p : PV) : Prop := ∃ d, toD p = some d ∧ SeqAt.shaped d = true
theorem neP_refl {p : PV} (h : Da p) : neP p p = some (.bl false) := by
  obtain ⟨d, e, s⟩ := h
  unfold neP
  rw [e]
  simp only
  rw [if_pos ⟨s, s⟩, SeqAt.eqv_refl d (SeqAt.canLay_of_shaped s)]
  rfl
theorem eqP_refl {p : PV} (h : Da p) : eqP p p = some (.bl true) := by
  obtain ⟨d, e, s⟩ := h
  unfold eqP
  rw [e]
  simp only
  rw [if_pos ⟨s, s⟩, SeqAt.eqv_refl d (SeqAt.canLay_of_shaped s)]
theorem da_int {i : Int} : Da (.int i) := ⟨_, rfl, rfl⟩
theorem da_str {z : Str} (h : SeqAt.shaped (.str z) = true) : Da (.str z) := ⟨_, rfl, h⟩
end Mi

set_option maxHeartbeats 0
namespace Mi.K17
open PySem L2
def top (i : Nat) : Stmt := PySem.Challenge.pw_helmsum_k17_refusals_apart.main.body.getD i (.Pass ⟨0, 0, 0, 0⟩)

abbrev s__law_bag : Stmt := top 13

abbrev s__law_take : Stmt := top 14

abbrev s__law_great : Stmt := top 20

abbrev s__law_top : Stmt := top 21

abbrev s__law_low : Stmt := top 15

abbrev s__law_any : Stmt := top 22

abbrev s__law_raised : Stmt := top 24

abbrev s__law_caught : Stmt := top 25

abbrev s__law_kinds : Stmt := top 26

abbrev s_law : Stmt := top 27

abbrev s_Wrong_init : Stmt := inClass (top 2) 0

abbrev s_NoThing_init : Stmt := inClass (top 3) 0

abbrev s_TooMany_init : Stmt := inClass (top 4) 0

abbrev s_NoNumber_init : Stmt := inClass (top 5) 0

abbrev s_NoFit_init : Stmt := inClass (top 6) 0

abbrev s_NotSteered_init : Stmt := inClass (top 7) 0

abbrev s_NotSeen_init : Stmt := inClass (top 8) 0

abbrev s_NoText_init : Stmt := inClass (top 9) 0

abbrev s_NoName_init : Stmt := inClass (top 10) 0

abbrev s_Taken_init : Stmt := inClass (top 11) 0

def fa0 : List He.Fa := [.free "range", .free "ValueError", .free "isinstance", .free "abs", .free "len", .free "max", .exm "Taken" "Wrong" false, .exm "NoName" "Wrong" false, .exm "NoText" "Wrong" false, .exm "NotSeen" "Wrong" false, .exm "NotSteered" "Wrong" false, .exm "NoFit" "Wrong" false, .exm "NoNumber" "Wrong" false, .exm "TooMany" "Wrong" false, .exm "NoThing" "Wrong" false, .exm "Wrong" "Wrong" true, .exm "Taken" "NoThing" false, .exm "NoName" "NoThing" false, .exm "NoText" "NoThing" false, .exm "NotSeen" "NoThing" false, .exm "NotSteered" "NoThing" false, .exm "NoFit" "NoThing" false, .exm "NoNumber" "NoThing" false, .exm "TooMany" "NoThing" false, .exm "NoThing" "NoThing" true, .exm "Wrong" "NoThing" false, .exm "Taken" "TooMany" false, .exm "NoName" "TooMany" false, .exm "NoText" "TooMany" false, .exm "NotSeen" "TooMany" false]
def fa1 : List He.Fa := [.exm "NotSteered" "TooMany" false, .exm "NoFit" "TooMany" false, .exm "NoNumber" "TooMany" false, .exm "TooMany" "TooMany" true, .exm "NoThing" "TooMany" false, .exm "Wrong" "TooMany" false, .exm "Taken" "NotSteered" false, .exm "NoName" "NotSteered" false, .exm "NoText" "NotSteered" false, .exm "NotSeen" "NotSteered" false, .exm "NotSteered" "NotSteered" true, .exm "NoFit" "NotSteered" false, .exm "NoNumber" "NotSteered" false, .exm "TooMany" "NotSteered" false, .exm "NoThing" "NotSteered" false, .exm "Wrong" "NotSteered" false, .exm "Taken" "NotSeen" false, .exm "NoName" "NotSeen" false, .exm "NoText" "NotSeen" false, .exm "NotSeen" "NotSeen" true, .exm "NotSteered" "NotSeen" false, .exm "NoFit" "NotSeen" false, .exm "NoNumber" "NotSeen" false, .exm "TooMany" "NotSeen" false, .exm "NoThing" "NotSeen" false, .exm "Wrong" "NotSeen" false, .exm "Taken" "NoName" false, .exm "NoName" "NoName" true, .exm "NoText" "NoName" false, .exm "NotSeen" "NoName" false]
def fa2 : List He.Fa := [.exm "NotSteered" "NoName" false, .exm "NoFit" "NoName" false, .exm "NoNumber" "NoName" false, .exm "TooMany" "NoName" false, .exm "NoThing" "NoName" false, .exm "Wrong" "NoName" false, .exm "Taken" "Taken" true, .exm "NoName" "Taken" false, .exm "NoText" "Taken" false, .exm "NotSeen" "Taken" false, .exm "NotSteered" "Taken" false, .exm "NoFit" "Taken" false, .exm "NoNumber" "Taken" false, .exm "TooMany" "Taken" false, .exm "NoThing" "Taken" false, .exm "Wrong" "Taken" false, .exm "Taken" "NoNumber" false, .exm "NoName" "NoNumber" false, .exm "NoText" "NoNumber" false, .exm "NotSeen" "NoNumber" false, .exm "NotSteered" "NoNumber" false, .exm "NoFit" "NoNumber" false, .exm "NoNumber" "NoNumber" true, .exm "TooMany" "NoNumber" false, .exm "NoThing" "NoNumber" false, .exm "Wrong" "NoNumber" false, .exm "Taken" "NoFit" false, .exm "NoName" "NoFit" false, .exm "NoText" "NoFit" false, .exm "NotSeen" "NoFit" false]
def fa3 : List He.Fa := [.exm "NotSteered" "NoFit" false, .exm "NoFit" "NoFit" true, .exm "NoNumber" "NoFit" false, .exm "TooMany" "NoFit" false, .exm "NoThing" "NoFit" false, .exm "Wrong" "NoFit" false, .exm "Taken" "NoText" false, .exm "NoName" "NoText" false, .exm "NoText" "NoText" true, .exm "NotSeen" "NoText" false, .exm "NotSteered" "NoText" false, .exm "NoFit" "NoText" false, .exm "NoNumber" "NoText" false, .exm "TooMany" "NoText" false, .exm "NoThing" "NoText" false, .exm "Wrong" "NoText" false, .glo "_law_bag", .glo "_law_take", .glo "_law_great", .glo "_law_top", .glo "_law_low", .glo "_law_any", .glo "_law_raised", .glo "_law_caught", .glo "_law_kinds", .glo "law", .glo "Wrong", .noat "Wrong" "at", .glo "NoThing", .noat "NoThing" "at"]
def fa4 : List He.Fa := [.glo "TooMany", .noat "TooMany" "most", .glo "NoNumber", .glo "NoFit", .glo "NotSteered", .noat "NotSteered" "price", .glo "NotSeen", .noat "NotSeen" "state", .glo "NoText", .glo "NoName", .noat "NoName" "name", .glo "Taken", .noat "Taken" "name", .glo "SumError"]
def fa : List He.Fa := fa0 ++ fa1 ++ fa2 ++ fa3 ++ fa4

def fn0 : List He.DefD := [⟨("_law_bag", none), "_law_bag", "_law_bag", defArgs s__law_bag, defBody s__law_bag, defScope s__law_bag, [], []⟩, ⟨("_law_take", none), "_law_take", "_law_take", defArgs s__law_take, defBody s__law_take, defScope s__law_take, [], []⟩, ⟨("_law_great", none), "_law_great", "_law_great", defArgs s__law_great, defBody s__law_great, defScope s__law_great, [], []⟩, ⟨("_law_top", none), "_law_top", "_law_top", defArgs s__law_top, defBody s__law_top, defScope s__law_top, [], []⟩, ⟨("_law_low", none), "_law_low", "_law_low", defArgs s__law_low, defBody s__law_low, defScope s__law_low, [], []⟩, ⟨("_law_any", none), "_law_any", "_law_any", defArgs s__law_any, defBody s__law_any, defScope s__law_any, [], []⟩, ⟨("_law_raised", none), "_law_raised", "_law_raised", defArgs s__law_raised, defBody s__law_raised, defScope s__law_raised, [], []⟩, ⟨("_law_caught", none), "_law_caught", "_law_caught", defArgs s__law_caught, defBody s__law_caught, defScope s__law_caught, [], []⟩, ⟨("_law_kinds", none), "_law_kinds", "_law_kinds", defArgs s__law_kinds, defBody s__law_kinds, defScope s__law_kinds, [], []⟩, ⟨("law", none), "law", "law", defArgs s_law, defBody s_law, defScope s_law, [], []⟩, ⟨("Wrong", some "__init__"), "__init__", "Wrong.__init__", defArgs s_Wrong_init, defBody s_Wrong_init, defScope s_Wrong_init, [], []⟩, ⟨("NoThing", some "__init__"), "__init__", "NoThing.__init__", defArgs s_NoThing_init, defBody s_NoThing_init, defScope s_NoThing_init, [], []⟩, ⟨("TooMany", some "__init__"), "__init__", "TooMany.__init__", defArgs s_TooMany_init, defBody s_TooMany_init, defScope s_TooMany_init, [], []⟩, ⟨("NoNumber", some "__init__"), "__init__", "NoNumber.__init__", defArgs s_NoNumber_init, defBody s_NoNumber_init, defScope s_NoNumber_init, [], []⟩, ⟨("NoFit", some "__init__"), "__init__", "NoFit.__init__", defArgs s_NoFit_init, defBody s_NoFit_init, defScope s_NoFit_init, [], []⟩, ⟨("NotSteered", some "__init__"), "__init__", "NotSteered.__init__", defArgs s_NotSteered_init, defBody s_NotSteered_init, defScope s_NotSteered_init, [], []⟩, ⟨("NotSeen", some "__init__"), "__init__", "NotSeen.__init__", defArgs s_NotSeen_init, defBody s_NotSeen_init, defScope s_NotSeen_init, [], []⟩, ⟨("NoText", some "__init__"), "__init__", "NoText.__init__", defArgs s_NoText_init, defBody s_NoText_init, defScope s_NoText_init, [], []⟩, ⟨("NoName", some "__init__"), "__init__", "NoName.__init__", defArgs s_NoName_init, defBody s_NoName_init, defScope s_NoName_init, [], []⟩, ⟨("Taken", some "__init__"), "__init__", "Taken.__init__", defArgs s_Taken_init, defBody s_Taken_init, defScope s_Taken_init, [], []⟩]
def fn : List He.DefD := fn0

def fx0 : List Fq := [(kitT "Wrong" "ValueError" true), (kitT "NoThing" "ValueError" true), (kitT "TooMany" "ValueError" true), (kitT "NoNumber" "ValueError" true), (kitT "NoFit" "ValueError" true), (kitT "NotSteered" "ValueError" true), (kitT "NotSeen" "ValueError" true), (kitT "NoText" "ValueError" true), (kitT "NoName" "ValueError" true), (kitT "Taken" "ValueError" true), (kitO "Wrong" "SumError" true), (kitO "NoThing" "SumError" true), (kitO "TooMany" "SumError" true), (kitO "NoNumber" "SumError" true), (kitO "NoFit" "SumError" true), (kitO "NotSteered" "SumError" true), (kitO "NotSeen" "SumError" true), (kitO "NoText" "SumError" true), (kitO "NoName" "SumError" true), (kitO "Taken" "SumError" true), (kitO "Wrong" "Wrong" true), (kitO "NoThing" "Wrong" false), (kitO "TooMany" "Wrong" false), (kitO "NoNumber" "Wrong" false), (kitO "NoFit" "Wrong" false), (kitO "NotSteered" "Wrong" false), (kitO "NotSeen" "Wrong" false), (kitO "NoText" "Wrong" false), (kitO "NoName" "Wrong" false), (kitO "Taken" "Wrong" false)]
def fx1 : List Fq := [(kitO "Wrong" "NoThing" false), (kitO "NoThing" "NoThing" true), (kitO "TooMany" "NoThing" false), (kitO "NoNumber" "NoThing" false), (kitO "NoFit" "NoThing" false), (kitO "NotSteered" "NoThing" false), (kitO "NotSeen" "NoThing" false), (kitO "NoText" "NoThing" false), (kitO "NoName" "NoThing" false), (kitO "Taken" "NoThing" false), (kitO "Wrong" "TooMany" false), (kitO "NoThing" "TooMany" false), (kitO "TooMany" "TooMany" true), (kitO "NoNumber" "TooMany" false), (kitO "NoFit" "TooMany" false), (kitO "NotSteered" "TooMany" false), (kitO "NotSeen" "TooMany" false), (kitO "NoText" "TooMany" false), (kitO "NoName" "TooMany" false), (kitO "Taken" "TooMany" false), (kitO "Wrong" "NotSteered" false), (kitO "NoThing" "NotSteered" false), (kitO "TooMany" "NotSteered" false), (kitO "NoNumber" "NotSteered" false), (kitO "NoFit" "NotSteered" false), (kitO "NotSteered" "NotSteered" true), (kitO "NotSeen" "NotSteered" false), (kitO "NoText" "NotSteered" false), (kitO "NoName" "NotSteered" false), (kitO "Taken" "NotSteered" false)]
def fx2 : List Fq := [(kitO "Wrong" "NotSeen" false), (kitO "NoThing" "NotSeen" false), (kitO "TooMany" "NotSeen" false), (kitO "NoNumber" "NotSeen" false), (kitO "NoFit" "NotSeen" false), (kitO "NotSteered" "NotSeen" false), (kitO "NotSeen" "NotSeen" true), (kitO "NoText" "NotSeen" false), (kitO "NoName" "NotSeen" false), (kitO "Taken" "NotSeen" false), (kitO "Wrong" "NoName" false), (kitO "NoThing" "NoName" false), (kitO "TooMany" "NoName" false), (kitO "NoNumber" "NoName" false), (kitO "NoFit" "NoName" false), (kitO "NotSteered" "NoName" false), (kitO "NotSeen" "NoName" false), (kitO "NoText" "NoName" false), (kitO "NoName" "NoName" true), (kitO "Taken" "NoName" false), (kitO "Wrong" "Taken" false), (kitO "NoThing" "Taken" false), (kitO "TooMany" "Taken" false), (kitO "NoNumber" "Taken" false), (kitO "NoFit" "Taken" false), (kitO "NotSteered" "Taken" false), (kitO "NotSeen" "Taken" false), (kitO "NoText" "Taken" false), (kitO "NoName" "Taken" false), (kitO "Taken" "Taken" true)]
def fx3 : List Fq := [(kitO "Wrong" "NoNumber" false), (kitO "NoThing" "NoNumber" false), (kitO "TooMany" "NoNumber" false), (kitO "NoNumber" "NoNumber" true), (kitO "NoFit" "NoNumber" false), (kitO "NotSteered" "NoNumber" false), (kitO "NotSeen" "NoNumber" false), (kitO "NoText" "NoNumber" false), (kitO "NoName" "NoNumber" false), (kitO "Taken" "NoNumber" false), (kitO "Wrong" "NoFit" false), (kitO "NoThing" "NoFit" false), (kitO "TooMany" "NoFit" false), (kitO "NoNumber" "NoFit" false), (kitO "NoFit" "NoFit" true), (kitO "NotSteered" "NoFit" false), (kitO "NotSeen" "NoFit" false), (kitO "NoText" "NoFit" false), (kitO "NoName" "NoFit" false), (kitO "Taken" "NoFit" false), (kitO "Wrong" "NoText" false), (kitO "NoThing" "NoText" false), (kitO "TooMany" "NoText" false), (kitO "NoNumber" "NoText" false), (kitO "NoFit" "NoText" false), (kitO "NotSteered" "NoText" false), (kitO "NotSeen" "NoText" false), (kitO "NoText" "NoText" true), (kitO "NoName" "NoText" false), (kitO "Taken" "NoText" false)]
def fx4 : List Fq := [(exkB "Wrong"), (exkB "NoThing"), (exkB "TooMany"), (exkB "NoNumber"), (exkB "NoFit"), (exkB "NotSteered"), (exkB "NotSeen"), (exkB "NoText"), (exkB "NoName"), (exkB "Taken"), (rdB "SumError")]
def fx : List Fq := fx0 ++ fx1 ++ fx2 ++ fx3 ++ fx4

def nmC : Nat → Str
  | 0 => "Wrong"
  | 1 => "NoThing"
  | 2 => "TooMany"
  | 3 => "NoNumber"
  | 4 => "NoFit"
  | 5 => "NotSteered"
  | 6 => "NotSeen"
  | 7 => "NoText"
  | 8 => "NoName"
  | 9 => "Taken"
  | _ => ""

def cfC : Nat → List Str
  | 0 => ["at"]
  | 1 => ["at"]
  | 2 => ["most"]
  | 3 => []
  | 4 => []
  | 5 => ["price"]
  | 6 => ["state"]
  | 7 => []
  | 8 => ["name"]
  | 9 => ["name"]
  | _ => []

abbrev GG (K : PySem.W.Frag) : Glo := ⟨K, fun i => He.ga K (nmC i), cfC, none⟩

abbrev Lay := LayB fa fn fx

noncomputable section
section
variable {P : Program} {w : World} {K : PySem.W.Frag} {mg : Str → Option Value} {base : Heap}

theorem e__law_bag (L : Lay P K mg base) : ∃ fd, Df K mg "_law_bag" s__law_bag ["_law_script"] (He.ga K "_law_bag") fd := L.df 0 106 (fun _ _ _ _ _ _ us hl => match us, hl with | [_], _ => rfl)

def d__law_bag (L : Lay P K mg base) : FuncData := (e__law_bag L).choose

theorem h__law_bag (L : Lay P K mg base) : Df K mg "_law_bag" s__law_bag ["_law_script"] (He.ga K "_law_bag") (d__law_bag L) := (e__law_bag L).choose_spec

theorem e__law_take (L : Lay P K mg base) : ∃ fd, Df K mg "_law_take" s__law_take ["_law_bag_here", "_law_many"] (He.ga K "_law_take") fd := L.df 1 107 (fun _ _ _ _ _ _ us hl => match us, hl with | [_, _], _ => rfl)

def d__law_take (L : Lay P K mg base) : FuncData := (e__law_take L).choose

theorem h__law_take (L : Lay P K mg base) : Df K mg "_law_take" s__law_take ["_law_bag_here", "_law_many"] (He.ga K "_law_take") (d__law_take L) := (e__law_take L).choose_spec

theorem e__law_great (L : Lay P K mg base) : ∃ fd, Df K mg "_law_great" s__law_great ["_law_bag_here"] (He.ga K "_law_great") fd := L.df 2 108 (fun _ _ _ _ _ _ us hl => match us, hl with | [_], _ => rfl)

def d__law_great (L : Lay P K mg base) : FuncData := (e__law_great L).choose

theorem h__law_great (L : Lay P K mg base) : Df K mg "_law_great" s__law_great ["_law_bag_here"] (He.ga K "_law_great") (d__law_great L) := (e__law_great L).choose_spec

theorem e__law_top (L : Lay P K mg base) : ∃ fd, Df K mg "_law_top" s__law_top ["_law_bag_here"] (He.ga K "_law_top") fd := L.df 3 109 (fun _ _ _ _ _ _ us hl => match us, hl with | [_], _ => rfl)

def d__law_top (L : Lay P K mg base) : FuncData := (e__law_top L).choose

theorem h__law_top (L : Lay P K mg base) : Df K mg "_law_top" s__law_top ["_law_bag_here"] (He.ga K "_law_top") (d__law_top L) := (e__law_top L).choose_spec

theorem e__law_low (L : Lay P K mg base) : ∃ fd, Df K mg "_law_low" s__law_low ["_law_top_here", "_law_bottom"] (He.ga K "_law_low") fd := L.df 4 110 (fun _ _ _ _ _ _ us hl => match us, hl with | [_, _], _ => rfl)

def d__law_low (L : Lay P K mg base) : FuncData := (e__law_low L).choose

theorem h__law_low (L : Lay P K mg base) : Df K mg "_law_low" s__law_low ["_law_top_here", "_law_bottom"] (He.ga K "_law_low") (d__law_low L) := (e__law_low L).choose_spec

theorem e__law_any (L : Lay P K mg base) : ∃ fd, Df K mg "_law_any" s__law_any ["_law_bag_here"] (He.ga K "_law_any") fd := L.df 5 111 (fun _ _ _ _ _ _ us hl => match us, hl with | [_], _ => rfl)

def d__law_any (L : Lay P K mg base) : FuncData := (e__law_any L).choose

theorem h__law_any (L : Lay P K mg base) : Df K mg "_law_any" s__law_any ["_law_bag_here"] (He.ga K "_law_any") (d__law_any L) := (e__law_any L).choose_spec

theorem e__law_raised (L : Lay P K mg base) : ∃ fd, Df K mg "_law_raised" s__law_raised ["_law_which", "_law_held"] (He.ga K "_law_raised") fd := L.df 6 112 (fun _ _ _ _ _ _ us hl => match us, hl with | [_, _], _ => rfl)

def d__law_raised (L : Lay P K mg base) : FuncData := (e__law_raised L).choose

theorem h__law_raised (L : Lay P K mg base) : Df K mg "_law_raised" s__law_raised ["_law_which", "_law_held"] (He.ga K "_law_raised") (d__law_raised L) := (e__law_raised L).choose_spec

theorem e__law_caught (L : Lay P K mg base) : ∃ fd, Df K mg "_law_caught" s__law_caught ["_law_which", "_law_held"] (He.ga K "_law_caught") fd := L.df 7 113 (fun _ _ _ _ _ _ us hl => match us, hl with | [_, _], _ => rfl)

def d__law_caught (L : Lay P K mg base) : FuncData := (e__law_caught L).choose

theorem h__law_caught (L : Lay P K mg base) : Df K mg "_law_caught" s__law_caught ["_law_which", "_law_held"] (He.ga K "_law_caught") (d__law_caught L) := (e__law_caught L).choose_spec

theorem e__law_kinds (L : Lay P K mg base) : ∃ fd, Df K mg "_law_kinds" s__law_kinds ["_law_e"] (He.ga K "_law_kinds") fd := L.df 8 114 (fun _ _ _ _ _ _ us hl => match us, hl with | [_], _ => rfl)

def d__law_kinds (L : Lay P K mg base) : FuncData := (e__law_kinds L).choose

theorem h__law_kinds (L : Lay P K mg base) : Df K mg "_law_kinds" s__law_kinds ["_law_e"] (He.ga K "_law_kinds") (d__law_kinds L) := (e__law_kinds L).choose_spec

theorem e_law (L : Lay P K mg base) : ∃ fd, Df K mg "law" s_law ["_law_script"] (He.ga K "law") fd := L.df 9 115 (fun _ _ _ _ _ _ us hl => match us, hl with | [_], _ => rfl)

def d_law (L : Lay P K mg base) : FuncData := (e_law L).choose

theorem h_law (L : Lay P K mg base) : Df K mg "law" s_law ["_law_script"] (He.ga K "law") (d_law L) := (e_law L).choose_spec

theorem e_Wrong_init (L : Lay P K mg base) : ∃ fd, FunD K "__init__" "Wrong.__init__" (defArgs s_Wrong_init) (defBody s_Wrong_init) (defScope s_Wrong_init) [] [] (He.ma K (He.ga K "Wrong") "__init__") fd ∧ Binds K fd ["self", "at"] [] := L.fd 10 (fun _ _ _ _ _ _ us hl => match us, hl with | [_, _], _ => rfl)

def d_Wrong_init (L : Lay P K mg base) : FuncData := (e_Wrong_init L).choose

theorem b_Wrong (L : Lay P K mg base) : Binds K (d_Wrong_init L) ["self", "at"] [] := (e_Wrong_init L).choose_spec.2

theorem g_Wrong (L : Lay P K mg base) : mg "Wrong" = some (.ref (He.ga K "Wrong")) := (L.glo 116)

theorem x_Wrong (L : Lay P K mg base) : ExK K mg (He.ga K "Wrong") "Wrong" (He.ma K (He.ga K "Wrong") "__init__") := (exkB_ok (L.fq 120) (g_Wrong L)).1

theorem xf_Wrong (L : Lay P K mg base) : XfC K (He.ga K "Wrong") := (exkB_ok (L.fq 120) (g_Wrong L)).2.1

theorem xc_Wrong (L : Lay P K mg base) : ExcC K (He.ga K "Wrong") := (exkB_ok (L.fq 120) (g_Wrong L)).2.2

theorem n_Wrong_at (L : Lay P K mg base) : PySem.W.findIn K (.ref (He.ga K "Wrong")) "at" = some none := L.noat 117

theorem e_NoThing_init (L : Lay P K mg base) : ∃ fd, FunD K "__init__" "NoThing.__init__" (defArgs s_NoThing_init) (defBody s_NoThing_init) (defScope s_NoThing_init) [] [] (He.ma K (He.ga K "NoThing") "__init__") fd ∧ Binds K fd ["self", "at"] [] := L.fd 11 (fun _ _ _ _ _ _ us hl => match us, hl with | [_, _], _ => rfl)

def d_NoThing_init (L : Lay P K mg base) : FuncData := (e_NoThing_init L).choose

theorem b_NoThing (L : Lay P K mg base) : Binds K (d_NoThing_init L) ["self", "at"] [] := (e_NoThing_init L).choose_spec.2

theorem g_NoThing (L : Lay P K mg base) : mg "NoThing" = some (.ref (He.ga K "NoThing")) := (L.glo 118)

theorem x_NoThing (L : Lay P K mg base) : ExK K mg (He.ga K "NoThing") "NoThing" (He.ma K (He.ga K "NoThing") "__init__") := (exkB_ok (L.fq 121) (g_NoThing L)).1

theorem xf_NoThing (L : Lay P K mg base) : XfC K (He.ga K "NoThing") := (exkB_ok (L.fq 121) (g_NoThing L)).2.1

theorem xc_NoThing (L : Lay P K mg base) : ExcC K (He.ga K "NoThing") := (exkB_ok (L.fq 121) (g_NoThing L)).2.2

theorem n_NoThing_at (L : Lay P K mg base) : PySem.W.findIn K (.ref (He.ga K "NoThing")) "at" = some none := L.noat 119

theorem e_TooMany_init (L : Lay P K mg base) : ∃ fd, FunD K "__init__" "TooMany.__init__" (defArgs s_TooMany_init) (defBody s_TooMany_init) (defScope s_TooMany_init) [] [] (He.ma K (He.ga K "TooMany") "__init__") fd ∧ Binds K fd ["self", "most"] [] := L.fd 12 (fun _ _ _ _ _ _ us hl => match us, hl with | [_, _], _ => rfl)

def d_TooMany_init (L : Lay P K mg base) : FuncData := (e_TooMany_init L).choose

theorem b_TooMany (L : Lay P K mg base) : Binds K (d_TooMany_init L) ["self", "most"] [] := (e_TooMany_init L).choose_spec.2

theorem g_TooMany (L : Lay P K mg base) : mg "TooMany" = some (.ref (He.ga K "TooMany")) := (L.glo 120)

theorem x_TooMany (L : Lay P K mg base) : ExK K mg (He.ga K "TooMany") "TooMany" (He.ma K (He.ga K "TooMany") "__init__") := (exkB_ok (L.fq 122) (g_TooMany L)).1

theorem xf_TooMany (L : Lay P K mg base) : XfC K (He.ga K "TooMany") := (exkB_ok (L.fq 122) (g_TooMany L)).2.1

theorem xc_TooMany (L : Lay P K mg base) : ExcC K (He.ga K "TooMany") := (exkB_ok (L.fq 122) (g_TooMany L)).2.2

theorem n_TooMany_most (L : Lay P K mg base) : PySem.W.findIn K (.ref (He.ga K "TooMany")) "most" = some none := L.noat 121

theorem e_NoNumber_init (L : Lay P K mg base) : ∃ fd, FunD K "__init__" "NoNumber.__init__" (defArgs s_NoNumber_init) (defBody s_NoNumber_init) (defScope s_NoNumber_init) [] [] (He.ma K (He.ga K "NoNumber") "__init__") fd ∧ Binds K fd ["self"] [] := L.fd 13 (fun _ _ _ _ _ _ us hl => match us, hl with | [_], _ => rfl)

def d_NoNumber_init (L : Lay P K mg base) : FuncData := (e_NoNumber_init L).choose

theorem b_NoNumber (L : Lay P K mg base) : Binds K (d_NoNumber_init L) ["self"] [] := (e_NoNumber_init L).choose_spec.2

theorem g_NoNumber (L : Lay P K mg base) : mg "NoNumber" = some (.ref (He.ga K "NoNumber")) := (L.glo 122)

theorem x_NoNumber (L : Lay P K mg base) : ExK K mg (He.ga K "NoNumber") "NoNumber" (He.ma K (He.ga K "NoNumber") "__init__") := (exkB_ok (L.fq 123) (g_NoNumber L)).1

theorem xf_NoNumber (L : Lay P K mg base) : XfC K (He.ga K "NoNumber") := (exkB_ok (L.fq 123) (g_NoNumber L)).2.1

theorem xc_NoNumber (L : Lay P K mg base) : ExcC K (He.ga K "NoNumber") := (exkB_ok (L.fq 123) (g_NoNumber L)).2.2

theorem e_NoFit_init (L : Lay P K mg base) : ∃ fd, FunD K "__init__" "NoFit.__init__" (defArgs s_NoFit_init) (defBody s_NoFit_init) (defScope s_NoFit_init) [] [] (He.ma K (He.ga K "NoFit") "__init__") fd ∧ Binds K fd ["self"] [] := L.fd 14 (fun _ _ _ _ _ _ us hl => match us, hl with | [_], _ => rfl)

def d_NoFit_init (L : Lay P K mg base) : FuncData := (e_NoFit_init L).choose

theorem b_NoFit (L : Lay P K mg base) : Binds K (d_NoFit_init L) ["self"] [] := (e_NoFit_init L).choose_spec.2

theorem g_NoFit (L : Lay P K mg base) : mg "NoFit" = some (.ref (He.ga K "NoFit")) := (L.glo 123)

theorem x_NoFit (L : Lay P K mg base) : ExK K mg (He.ga K "NoFit") "NoFit" (He.ma K (He.ga K "NoFit") "__init__") := (exkB_ok (L.fq 124) (g_NoFit L)).1

theorem xf_NoFit (L : Lay P K mg base) : XfC K (He.ga K "NoFit") := (exkB_ok (L.fq 124) (g_NoFit L)).2.1

theorem xc_NoFit (L : Lay P K mg base) : ExcC K (He.ga K "NoFit") := (exkB_ok (L.fq 124) (g_NoFit L)).2.2

theorem e_NotSteered_init (L : Lay P K mg base) : ∃ fd, FunD K "__init__" "NotSteered.__init__" (defArgs s_NotSteered_init) (defBody s_NotSteered_init) (defScope s_NotSteered_init) [] [] (He.ma K (He.ga K "NotSteered") "__init__") fd ∧ Binds K fd ["self", "price"] [] := L.fd 15 (fun _ _ _ _ _ _ us hl => match us, hl with | [_, _], _ => rfl)

def d_NotSteered_init (L : Lay P K mg base) : FuncData := (e_NotSteered_init L).choose

theorem b_NotSteered (L : Lay P K mg base) : Binds K (d_NotSteered_init L) ["self", "price"] [] := (e_NotSteered_init L).choose_spec.2

theorem g_NotSteered (L : Lay P K mg base) : mg "NotSteered" = some (.ref (He.ga K "NotSteered")) := (L.glo 124)

theorem x_NotSteered (L : Lay P K mg base) : ExK K mg (He.ga K "NotSteered") "NotSteered" (He.ma K (He.ga K "NotSteered") "__init__") := (exkB_ok (L.fq 125) (g_NotSteered L)).1

theorem xf_NotSteered (L : Lay P K mg base) : XfC K (He.ga K "NotSteered") := (exkB_ok (L.fq 125) (g_NotSteered L)).2.1

theorem xc_NotSteered (L : Lay P K mg base) : ExcC K (He.ga K "NotSteered") := (exkB_ok (L.fq 125) (g_NotSteered L)).2.2

theorem n_NotSteered_price (L : Lay P K mg base) : PySem.W.findIn K (.ref (He.ga K "NotSteered")) "price" = some none := L.noat 125

theorem e_NotSeen_init (L : Lay P K mg base) : ∃ fd, FunD K "__init__" "NotSeen.__init__" (defArgs s_NotSeen_init) (defBody s_NotSeen_init) (defScope s_NotSeen_init) [] [] (He.ma K (He.ga K "NotSeen") "__init__") fd ∧ Binds K fd ["self", "state"] [] := L.fd 16 (fun _ _ _ _ _ _ us hl => match us, hl with | [_, _], _ => rfl)

def d_NotSeen_init (L : Lay P K mg base) : FuncData := (e_NotSeen_init L).choose

theorem b_NotSeen (L : Lay P K mg base) : Binds K (d_NotSeen_init L) ["self", "state"] [] := (e_NotSeen_init L).choose_spec.2

theorem g_NotSeen (L : Lay P K mg base) : mg "NotSeen" = some (.ref (He.ga K "NotSeen")) := (L.glo 126)

theorem x_NotSeen (L : Lay P K mg base) : ExK K mg (He.ga K "NotSeen") "NotSeen" (He.ma K (He.ga K "NotSeen") "__init__") := (exkB_ok (L.fq 126) (g_NotSeen L)).1

theorem xf_NotSeen (L : Lay P K mg base) : XfC K (He.ga K "NotSeen") := (exkB_ok (L.fq 126) (g_NotSeen L)).2.1

theorem xc_NotSeen (L : Lay P K mg base) : ExcC K (He.ga K "NotSeen") := (exkB_ok (L.fq 126) (g_NotSeen L)).2.2

theorem n_NotSeen_state (L : Lay P K mg base) : PySem.W.findIn K (.ref (He.ga K "NotSeen")) "state" = some none := L.noat 127

theorem e_NoText_init (L : Lay P K mg base) : ∃ fd, FunD K "__init__" "NoText.__init__" (defArgs s_NoText_init) (defBody s_NoText_init) (defScope s_NoText_init) [] [] (He.ma K (He.ga K "NoText") "__init__") fd ∧ Binds K fd ["self"] [] := L.fd 17 (fun _ _ _ _ _ _ us hl => match us, hl with | [_], _ => rfl)

def d_NoText_init (L : Lay P K mg base) : FuncData := (e_NoText_init L).choose

theorem b_NoText (L : Lay P K mg base) : Binds K (d_NoText_init L) ["self"] [] := (e_NoText_init L).choose_spec.2

theorem g_NoText (L : Lay P K mg base) : mg "NoText" = some (.ref (He.ga K "NoText")) := (L.glo 128)

theorem x_NoText (L : Lay P K mg base) : ExK K mg (He.ga K "NoText") "NoText" (He.ma K (He.ga K "NoText") "__init__") := (exkB_ok (L.fq 127) (g_NoText L)).1

theorem xf_NoText (L : Lay P K mg base) : XfC K (He.ga K "NoText") := (exkB_ok (L.fq 127) (g_NoText L)).2.1

theorem xc_NoText (L : Lay P K mg base) : ExcC K (He.ga K "NoText") := (exkB_ok (L.fq 127) (g_NoText L)).2.2

theorem e_NoName_init (L : Lay P K mg base) : ∃ fd, FunD K "__init__" "NoName.__init__" (defArgs s_NoName_init) (defBody s_NoName_init) (defScope s_NoName_init) [] [] (He.ma K (He.ga K "NoName") "__init__") fd ∧ Binds K fd ["self", "name"] [] := L.fd 18 (fun _ _ _ _ _ _ us hl => match us, hl with | [_, _], _ => rfl)

def d_NoName_init (L : Lay P K mg base) : FuncData := (e_NoName_init L).choose

theorem b_NoName (L : Lay P K mg base) : Binds K (d_NoName_init L) ["self", "name"] [] := (e_NoName_init L).choose_spec.2

theorem g_NoName (L : Lay P K mg base) : mg "NoName" = some (.ref (He.ga K "NoName")) := (L.glo 129)

theorem x_NoName (L : Lay P K mg base) : ExK K mg (He.ga K "NoName") "NoName" (He.ma K (He.ga K "NoName") "__init__") := (exkB_ok (L.fq 128) (g_NoName L)).1

theorem xf_NoName (L : Lay P K mg base) : XfC K (He.ga K "NoName") := (exkB_ok (L.fq 128) (g_NoName L)).2.1

theorem xc_NoName (L : Lay P K mg base) : ExcC K (He.ga K "NoName") := (exkB_ok (L.fq 128) (g_NoName L)).2.2

theorem n_NoName_name (L : Lay P K mg base) : PySem.W.findIn K (.ref (He.ga K "NoName")) "name" = some none := L.noat 130

theorem e_Taken_init (L : Lay P K mg base) : ∃ fd, FunD K "__init__" "Taken.__init__" (defArgs s_Taken_init) (defBody s_Taken_init) (defScope s_Taken_init) [] [] (He.ma K (He.ga K "Taken") "__init__") fd ∧ Binds K fd ["self", "name"] [] := L.fd 19 (fun _ _ _ _ _ _ us hl => match us, hl with | [_, _], _ => rfl)

def d_Taken_init (L : Lay P K mg base) : FuncData := (e_Taken_init L).choose

theorem b_Taken (L : Lay P K mg base) : Binds K (d_Taken_init L) ["self", "name"] [] := (e_Taken_init L).choose_spec.2

theorem g_Taken (L : Lay P K mg base) : mg "Taken" = some (.ref (He.ga K "Taken")) := (L.glo 131)

theorem x_Taken (L : Lay P K mg base) : ExK K mg (He.ga K "Taken") "Taken" (He.ma K (He.ga K "Taken") "__init__") := (exkB_ok (L.fq 129) (g_Taken L)).1

theorem xf_Taken (L : Lay P K mg base) : XfC K (He.ga K "Taken") := (exkB_ok (L.fq 129) (g_Taken L)).2.1

theorem xc_Taken (L : Lay P K mg base) : ExcC K (He.ga K "Taken") := (exkB_ok (L.fq 129) (g_Taken L)).2.2

theorem n_Taken_name (L : Lay P K mg base) : PySem.W.findIn K (.ref (He.ga K "Taken")) "name" = some none := L.noat 132

theorem g_SumError (L : Lay P K mg base) : mg "SumError" = some (.ref (He.ga K "SumError")) := (L.glo 133)

theorem r_SumError (L : Lay P K mg base) : ClX.CRead K (He.ga K "SumError") (.type "type") ∧ PySem.W.findCls K (.ref (He.ga K "SumError")) (.type "type") "__init__" = some (.val (.builtin "ValueError.__init__")) := rdB_ok (L.fq 130)

theorem sc_Wrong_init : FnScope ["self", "at"] ["self", "at"] (defScope s_Wrong_init) := ⟨rfl, rfl, rfl, by decide +kernel, rfl, by decide +kernel, by decide +kernel⟩

theorem ok_Wrong_init (L : Lay P K mg base) : FnOk P w K mg base (L2.CX P w) 42 (He.ma K (He.ga K "Wrong") "__init__") (d_Wrong_init L) ["self", "at"] (spI1 (He.ga K "Wrong") "at") :=
  ok_init1 (e_Wrong_init L).choose_spec.1 sc_Wrong_init rfl (x_Wrong L).T (n_Wrong_at L) fun cdv A outer s H E => pss_cons (ps_expr (pe_oinit rfl (g_SumError L) (r_SumError L).1 (r_SumError L).2 (pa_cons (pe_var rfl (.inl rfl)) (pa_cons pe_str pa_nil)))) (pss_one (ps_ost (pe_var rfl (.inl rfl)) (pe_var rfl (.inl rfl))))

theorem sc_NoThing_init : FnScope ["self", "at"] ["self", "at"] (defScope s_NoThing_init) := ⟨rfl, rfl, rfl, by decide +kernel, rfl, by decide +kernel, by decide +kernel⟩

theorem ok_NoThing_init (L : Lay P K mg base) : FnOk P w K mg base (L2.CX P w) 42 (He.ma K (He.ga K "NoThing") "__init__") (d_NoThing_init L) ["self", "at"] (spI1 (He.ga K "NoThing") "at") :=
  ok_init1 (e_NoThing_init L).choose_spec.1 sc_NoThing_init rfl (x_NoThing L).T (n_NoThing_at L) fun cdv A outer s H E => pss_cons (ps_expr (pe_oinit rfl (g_SumError L) (r_SumError L).1 (r_SumError L).2 (pa_cons (pe_var rfl (.inl rfl)) (pa_cons pe_str pa_nil)))) (pss_one (ps_ost (pe_var rfl (.inl rfl)) (pe_var rfl (.inl rfl))))

theorem sc_TooMany_init : FnScope ["self", "most"] ["self", "most"] (defScope s_TooMany_init) := ⟨rfl, rfl, rfl, by decide +kernel, rfl, by decide +kernel, by decide +kernel⟩

theorem ok_TooMany_init (L : Lay P K mg base) : FnOk P w K mg base (L2.CX P w) 42 (He.ma K (He.ga K "TooMany") "__init__") (d_TooMany_init L) ["self", "most"] (spI1 (He.ga K "TooMany") "most") :=
  ok_init1 (e_TooMany_init L).choose_spec.1 sc_TooMany_init rfl (x_TooMany L).T (n_TooMany_most L) fun cdv A outer s H E => pss_cons (ps_expr (pe_oinit rfl (g_SumError L) (r_SumError L).1 (r_SumError L).2 (pa_cons (pe_var rfl (.inl rfl)) (pa_cons pe_str pa_nil)))) (pss_one (ps_ost (pe_var rfl (.inl rfl)) (pe_var rfl (.inl rfl))))

theorem sc_NoNumber_init : FnScope ["self"] ["self"] (defScope s_NoNumber_init) := ⟨rfl, rfl, rfl, by decide +kernel, rfl, by decide +kernel, by decide +kernel⟩

theorem ok_NoNumber_init (L : Lay P K mg base) : FnOk P w K mg base (L2.CX P w) 42 (He.ma K (He.ga K "NoNumber") "__init__") (d_NoNumber_init L) ["self"] (spI0 (He.ga K "NoNumber")) :=
  ok_init0 (e_NoNumber_init L).choose_spec.1 sc_NoNumber_init rfl (x_NoNumber L).T fun cdv A outer s H E => pss_one (ps_expr (pe_oinit rfl (g_SumError L) (r_SumError L).1 (r_SumError L).2 (pa_cons (pe_var rfl (.inl rfl)) (pa_cons pe_str pa_nil))))

theorem sc_NoFit_init : FnScope ["self"] ["self"] (defScope s_NoFit_init) := ⟨rfl, rfl, rfl, by decide +kernel, rfl, by decide +kernel, by decide +kernel⟩

theorem ok_NoFit_init (L : Lay P K mg base) : FnOk P w K mg base (L2.CX P w) 42 (He.ma K (He.ga K "NoFit") "__init__") (d_NoFit_init L) ["self"] (spI0 (He.ga K "NoFit")) :=
  ok_init0 (e_NoFit_init L).choose_spec.1 sc_NoFit_init rfl (x_NoFit L).T fun cdv A outer s H E => pss_one (ps_expr (pe_oinit rfl (g_SumError L) (r_SumError L).1 (r_SumError L).2 (pa_cons (pe_var rfl (.inl rfl)) (pa_cons pe_str pa_nil))))

theorem sc_NotSteered_init : FnScope ["self", "price"] ["self", "price"] (defScope s_NotSteered_init) := ⟨rfl, rfl, rfl, by decide +kernel, rfl, by decide +kernel, by decide +kernel⟩

theorem ok_NotSteered_init (L : Lay P K mg base) : FnOk P w K mg base (L2.CX P w) 42 (He.ma K (He.ga K "NotSteered") "__init__") (d_NotSteered_init L) ["self", "price"] (spI1 (He.ga K "NotSteered") "price") :=
  ok_init1 (e_NotSteered_init L).choose_spec.1 sc_NotSteered_init rfl (x_NotSteered L).T (n_NotSteered_price L) fun cdv A outer s H E => pss_cons (ps_expr (pe_oinit rfl (g_SumError L) (r_SumError L).1 (r_SumError L).2 (pa_cons (pe_var rfl (.inl rfl)) (pa_cons pe_str pa_nil)))) (pss_one (ps_ost (pe_var rfl (.inl rfl)) (pe_var rfl (.inl rfl))))

theorem sc_NotSeen_init : FnScope ["self", "state"] ["self", "state"] (defScope s_NotSeen_init) := ⟨rfl, rfl, rfl, by decide +kernel, rfl, by decide +kernel, by decide +kernel⟩

theorem ok_NotSeen_init (L : Lay P K mg base) : FnOk P w K mg base (L2.CX P w) 42 (He.ma K (He.ga K "NotSeen") "__init__") (d_NotSeen_init L) ["self", "state"] (spI1 (He.ga K "NotSeen") "state") :=
  ok_init1 (e_NotSeen_init L).choose_spec.1 sc_NotSeen_init rfl (x_NotSeen L).T (n_NotSeen_state L) fun cdv A outer s H E => pss_cons (ps_expr (pe_oinit rfl (g_SumError L) (r_SumError L).1 (r_SumError L).2 (pa_cons (pe_var rfl (.inl rfl)) (pa_cons pe_str pa_nil)))) (pss_one (ps_ost (pe_var rfl (.inl rfl)) (pe_var rfl (.inl rfl))))

theorem sc_NoText_init : FnScope ["self"] ["self"] (defScope s_NoText_init) := ⟨rfl, rfl, rfl, by decide +kernel, rfl, by decide +kernel, by decide +kernel⟩

theorem ok_NoText_init (L : Lay P K mg base) : FnOk P w K mg base (L2.CX P w) 42 (He.ma K (He.ga K "NoText") "__init__") (d_NoText_init L) ["self"] (spI0 (He.ga K "NoText")) :=
  ok_init0 (e_NoText_init L).choose_spec.1 sc_NoText_init rfl (x_NoText L).T fun cdv A outer s H E => pss_one (ps_expr (pe_oinit rfl (g_SumError L) (r_SumError L).1 (r_SumError L).2 (pa_cons (pe_var rfl (.inl rfl)) (pa_cons pe_str pa_nil))))

theorem sc_NoName_init : FnScope ["self", "name"] ["self", "name"] (defScope s_NoName_init) := ⟨rfl, rfl, rfl, by decide +kernel, rfl, by decide +kernel, by decide +kernel⟩

theorem ok_NoName_init (L : Lay P K mg base) : FnOk P w K mg base (L2.CX P w) 42 (He.ma K (He.ga K "NoName") "__init__") (d_NoName_init L) ["self", "name"] (spI1 (He.ga K "NoName") "name") :=
  ok_init1 (e_NoName_init L).choose_spec.1 sc_NoName_init rfl (x_NoName L).T (n_NoName_name L) fun cdv A outer s H E => pss_cons (ps_expr (pe_oinit rfl (g_SumError L) (r_SumError L).1 (r_SumError L).2 (pa_cons (pe_var rfl (.inl rfl)) (pa_cons pe_str pa_nil)))) (pss_one (ps_ost (pe_var rfl (.inl rfl)) (pe_var rfl (.inl rfl))))

theorem sc_Taken_init : FnScope ["self", "name"] ["self", "name"] (defScope s_Taken_init) := ⟨rfl, rfl, rfl, by decide +kernel, rfl, by decide +kernel, by decide +kernel⟩

theorem ok_Taken_init (L : Lay P K mg base) : FnOk P w K mg base (L2.CX P w) 42 (He.ma K (He.ga K "Taken") "__init__") (d_Taken_init L) ["self", "name"] (spI1 (He.ga K "Taken") "name") :=
  ok_init1 (e_Taken_init L).choose_spec.1 sc_Taken_init rfl (x_Taken L).T (n_Taken_name L) fun cdv A outer s H E => pss_cons (ps_expr (pe_oinit rfl (g_SumError L) (r_SumError L).1 (r_SumError L).2 (pa_cons (pe_var rfl (.inl rfl)) (pa_cons pe_str pa_nil)))) (pss_one (ps_ost (pe_var rfl (.inl rfl)) (pe_var rfl (.inl rfl))))

-- _law_bag

def m__law_bag : SM :=
    (retS (lstE (aCons (kp (.int 0)) (aCons (kp (.int 1234567891)) (aCons (kp (.int 0)) (aCons (pV (lcM (seqI (pV (slRd (vr 0) oNone (oSome (kp (.int 63)))))) (nmT 1) yesT (cbS absF (aCons (vr 1) aNil)) [1])) aNil))))))

def f__law_bag : List PV → M SV := runF 2 m__law_bag

theorem sc__law_bag : FnScope ["_law_script", "_law_cell"] ["_law_script"] (defScope s__law_bag) := ⟨rfl, rfl, rfl, by decide +kernel, rfl, by decide +kernel, by decide +kernel⟩

theorem ok__law_bag (L : Lay P K mg base) : FnOk P w K mg base (L2.CX P w) 41 (He.ga K "_law_bag") (d__law_bag L) ["_law_script"] (spF (GG K) 1 f__law_bag) :=
  ok_of (h__law_bag L) sc__law_bag rfl fun cdv A outer s H E hr =>
    (r_sone (r_ret (r_lst (r_cons r_int (r_cons r_int (r_cons r_int (r_cons (r_pV (r_lc (own := [("_law_cell", 1)]) rfl sc__law_bag.nd (r_seqI rfl (r_pV (r_slRd rfl (r_vr rfl) r_oNone (r_oSome r_int)))) (blkOk_by (by kernel_rfl)) (by decide) (fun _ _ _ _ _ => (r_nmT sc__law_bag.nd rfl)) (fun _ _ _ _ _ => r_yes) (fun _ _ _ _ _ => (r_abs (L.free 3) (r_cons (r_vr rfl) r_nil))))) r_nil)))))))

-- _law_take

def m__law_take : SM :=
    (seqS (ifS (bP (op2 eqP (op2S ixF (vr 0) (kp (.int 0))) (kp (.int 0)))) (seqS (asgT (kp (.int 12345)) (nmT 4))
    (seqS (ifS (bP (op2 ltI (op2S ixF (vr 0) (kp (.int 2))) (cbS lenF (aCons (op2S ixF (vr 0) (kp (.int 3))) aNil)))) (seqS (asgT (op2S ixF (op2S ixF (vr 0) (kp (.int 3))) (op2S ixF (vr 0) (kp (.int 2)))) (nmT 6))
    (seqS (augIxR (fun i j => i + j) (vr 0) (kp (.int 2)) (kp (.int 1)))
    (seqS (ifS (bP (op2 geI (vr 6) (kp (.int 1000000000000000000)))) (setIxR (vr 6) (vr 0) (kp (.int 0))) nxS)
    (asgT (op2 addI (op2 modI (vr 6) (kp (.int 2147483647))) (kp (.int 1))) (nmT 4))))) nxS)
    (setIxR (op2 modI (op2 addI (op2 mulI (op2S ixF (vr 0) (kp (.int 1))) (kp (.int 48271))) (vr 4)) (kp (.int 2147483647))) (vr 0) (kp (.int 1))))) nxS)
    (seqS (ifS (bP (op2 gtI (op2S ixF (vr 0) (kp (.int 0))) (kp (.int 0)))) (seqS (asgT (op2 modI (op2S ixF (vr 0) (kp (.int 0))) (vr 1)) (nmT 5))
    (seqS (setIxR (op2 divI (op2S ixF (vr 0) (kp (.int 0))) (vr 1)) (vr 0) (kp (.int 0)))
    (retV 5))) nxS)
    (seqS (asgT (op2 modI (op2 mulI (op2S ixF (vr 0) (kp (.int 1))) (kp (.int 39373))) (kp (.int 1000000007))) (nmT 2))
    (seqS (asgT (op2 modI (op2 mulI (vr 2) (kp (.int 30011))) (kp (.int 998244353))) (nmT 3))
    (seqS (ifS (bP (op2 gtI (vr 1) (kp (.int 1000000)))) (retS (vP (op2 modI (op2 addI (op2 mulI (vr 3) (kp (.int 1000000000))) (vr 2)) (vr 1)))) nxS)
    (retS (vP (op2 modI (op2 divI (vr 3) (kp (.int 3))) (vr 1)))))))))

def f__law_take : List PV → M SV := runF 7 m__law_take

theorem sc__law_take : FnScope ["_law_bag_here", "_law_many", "_law_first", "_law_second", "_law_more", "_law_value", "_law_cell"] ["_law_bag_here", "_law_many"] (defScope s__law_take) := ⟨rfl, rfl, rfl, by decide +kernel, rfl, by decide +kernel, by decide +kernel⟩

theorem ok__law_take (L : Lay P K mg base) : FnOk P w K mg base (L2.CX P w) 41 (He.ga K "_law_take") (d__law_take L) ["_law_bag_here", "_law_many"] (spF (GG K) 2 f__law_take) :=
  ok_of (h__law_take L) sc__law_take rfl fun cdv A outer s H E hr =>
    (r_scons (r_if (r_eqT rfl hr.units (r_ix rfl (r_vr rfl) r_int) r_int) (r_scons (r_asg r_int (r_nmT sc__law_take.nd rfl))
    (r_scons (r_if (r_ltT (r_ix rfl (r_vr rfl) r_int) (r_len rfl (L.free 4) (r_cons (r_ix rfl (r_vr rfl) r_int) r_nil))) (r_scons (r_asg (r_ix rfl (r_ix rfl (r_vr rfl) r_int) (r_ix rfl (r_vr rfl) r_int)) (r_nmT sc__law_take.nd rfl))
    (r_scons (r_augIxR rfl ip_add (r_vr rfl) r_int r_int)
    (r_scons (r_if (r_geT (r_vr rfl) r_int) (r_sone (r_setIxR (r_vr rfl) (pg_sub (r_vr rfl) r_int set_list))) r_snil)
    (r_sone (r_asg (r_addI (r_modI (r_vr rfl) r_int) r_int) (r_nmT sc__law_take.nd rfl)))))) r_snil)
    (r_sone (r_setIxR (r_modI (r_addI (r_mulI (r_ix rfl (r_vr rfl) r_int) r_int) (r_vr rfl)) r_int) (pg_sub (r_vr rfl) r_int set_list))))) r_snil)
    (r_scons (r_if (r_gtT (r_ix rfl (r_vr rfl) r_int) r_int) (r_scons (r_asg (r_modI (r_ix rfl (r_vr rfl) r_int) (r_vr rfl)) (r_nmT sc__law_take.nd rfl))
    (r_scons (r_setIxR (r_divI (big_of L.seer L.tree rfl rfl hr (by decide)) (r_ix rfl (r_vr rfl) r_int) (r_vr rfl)) (pg_sub (r_vr rfl) r_int set_list))
    (r_sone (r_retV rfl)))) r_snil)
    (r_scons (r_asg (r_modI (r_mulI (r_ix rfl (r_vr rfl) r_int) r_int) r_int) (r_nmT sc__law_take.nd rfl))
    (r_scons (r_asg (r_modI (r_mulI (r_vr rfl) r_int) r_int) (r_nmT sc__law_take.nd rfl))
    (r_scons (r_if (r_gtT (r_vr rfl) r_int) (r_sone (r_ret (r_vP (r_modI (r_addI (r_mulI (r_vr rfl) r_int) (r_vr rfl)) (r_vr rfl))))) r_snil)
    (r_sone (r_ret (r_vP (r_modI (r_divI (big_of L.seer L.tree rfl rfl hr (by decide)) (r_vr rfl) r_int) (r_vr rfl))))))))))

-- _law_great

def m__law_great : SM :=
    (seqS (asgT (pV (callM 2 f__law_take (aCons (vr 0) (aCons (kp (.int 6)) aNil)))) (nmT 1))
    (seqS (ifS (bP (op2 eqP (vr 1) (kp (.int 0)))) (retS (callM 2 f__law_take (aCons (vr 0) (aCons (kp (.int 4)) aNil)))) nxS)
    (seqS (ifS (bP (op2 eqP (vr 1) (kp (.int 1)))) (retS (callM 2 f__law_take (aCons (vr 0) (aCons (kp (.int 100)) aNil)))) nxS)
    (seqS (ifS (bP (op2 eqP (vr 1) (kp (.int 2)))) (retS (callM 2 f__law_take (aCons (vr 0) (aCons (op2 powI (kp (.int 10)) (kp (.int 12))) aNil)))) nxS)
    (seqS (ifS (bP (op2 eqP (vr 1) (kp (.int 3)))) (seqS (asgT (kp (.int 1)) (nmT 2))
    (seqS (forS (cbI rng1F (aCons (pV (callM 2 f__law_take (aCons (vr 0) (aCons (kp (.int 60)) aNil)))) aNil)) (nmT 3)
    (asgT (op2 mulI (vr 2) (kp (.int 10))) (nmT 2)))
    (retV 2))) nxS)
    (seqS (ifS (bP (op2 eqP (vr 1) (kp (.int 4)))) (retS (vP (op2 mulI (op2 mulI (pV (callM 2 f__law_take (aCons (vr 0) (aCons (op2 powI (kp (.int 10)) (kp (.int 18))) aNil)))) (pV (callM 2 f__law_take (aCons (vr 0) (aCons (op2 powI (kp (.int 10)) (kp (.int 18))) aNil))))) (pV (callM 2 f__law_take (aCons (vr 0) (aCons (op2 powI (kp (.int 10)) (kp (.int 18))) aNil))))))) nxS)
    (retS (vP (op2 subI (op2 subI (op2 powI (kp (.int 10)) (kp (.int 60))) (kp (.int 1))) (pV (callM 2 f__law_take (aCons (vr 0) (aCons (op2 powI (kp (.int 10)) (kp (.int 9))) aNil)))))))))))))

def f__law_great : List PV → M SV := runF 4 m__law_great

theorem sc__law_great : FnScope ["_law_bag_here", "_law_way", "_law_found", "_law_k"] ["_law_bag_here"] (defScope s__law_great) := ⟨rfl, rfl, rfl, by decide +kernel, rfl, by decide +kernel, by decide +kernel⟩

theorem ok__law_great (L : Lay P K mg base) : FnOk P w K mg base (L2.CX P w) 42 (He.ga K "_law_great") (d__law_great L) ["_law_bag_here"] (spF (GG K) 1 f__law_great) :=
  ok_of (h__law_great L) sc__law_great rfl fun cdv A outer s H E hr =>
    (r_scons (r_asg (r_pV (r_call (ok__law_take L) (hr.mono (by decide)) (h__law_take L).mg (h__law_take L).fn.kp (h__law_take L).b (takes_of rfl rfl rfl rfl) (r_cons (r_vr rfl) (r_cons r_int r_nil)))) (r_nmT sc__law_great.nd rfl))
    (r_scons (r_if (r_eqT rfl hr.units (r_vr rfl) r_int) (r_sone (r_ret (r_call (ok__law_take L) (hr.mono (by decide)) (h__law_take L).mg (h__law_take L).fn.kp (h__law_take L).b (takes_of rfl rfl rfl rfl) (r_cons (r_vr rfl) (r_cons r_int r_nil))))) r_snil)
    (r_scons (r_if (r_eqT rfl hr.units (r_vr rfl) r_int) (r_sone (r_ret (r_call (ok__law_take L) (hr.mono (by decide)) (h__law_take L).mg (h__law_take L).fn.kp (h__law_take L).b (takes_of rfl rfl rfl rfl) (r_cons (r_vr rfl) (r_cons r_int r_nil))))) r_snil)
    (r_scons (r_if (r_eqT rfl hr.units (r_vr rfl) r_int) (r_sone (r_ret (r_call (ok__law_take L) (hr.mono (by decide)) (h__law_take L).mg (h__law_take L).fn.kp (h__law_take L).b (takes_of rfl rfl rfl rfl) (r_cons (r_vr rfl) (r_cons (r_powI r_int r_int) r_nil))))) r_snil)
    (r_scons (r_if (r_eqT rfl hr.units (r_vr rfl) r_int) (r_scons (r_asg r_int (r_nmT sc__law_great.nd rfl))
    (r_scons (r_for (passes_of rfl) rfl (r_rng1 (L.free 0) (r_cons (r_pV (r_call (ok__law_take L) (hr.mono (by decide)) (h__law_take L).mg (h__law_take L).fn.kp (h__law_take L).b (takes_of rfl rfl rfl rfl) (r_cons (r_vr rfl) (r_cons r_int r_nil)))) r_nil)) (r_nmT sc__law_great.nd rfl)
    (r_sone (r_asg (r_mulI (r_vr rfl) r_int) (r_nmT sc__law_great.nd rfl))))
    (r_sone (r_retV rfl)))) r_snil)
    (r_scons (r_if (r_eqT rfl hr.units (r_vr rfl) r_int) (r_sone (r_ret (r_vP (r_mulI (r_mulI (r_pV (r_call (ok__law_take L) (hr.mono (by decide)) (h__law_take L).mg (h__law_take L).fn.kp (h__law_take L).b (takes_of rfl rfl rfl rfl) (r_cons (r_vr rfl) (r_cons (r_powI r_int r_int) r_nil)))) (r_pV (r_call (ok__law_take L) (hr.mono (by decide)) (h__law_take L).mg (h__law_take L).fn.kp (h__law_take L).b (takes_of rfl rfl rfl rfl) (r_cons (r_vr rfl) (r_cons (r_powI r_int r_int) r_nil))))) (r_pV (r_call (ok__law_take L) (hr.mono (by decide)) (h__law_take L).mg (h__law_take L).fn.kp (h__law_take L).b (takes_of rfl rfl rfl rfl) (r_cons (r_vr rfl) (r_cons (r_powI r_int r_int) r_nil)))))))) r_snil)
    (r_sone (r_ret (r_vP (r_subI (r_subI (r_powI r_int r_int) r_int) (r_pV (r_call (ok__law_take L) (hr.mono (by decide)) (h__law_take L).mg (h__law_take L).fn.kp (h__law_take L).b (takes_of rfl rfl rfl rfl) (r_cons (r_vr rfl) (r_cons (r_powI r_int r_int) r_nil))))))))))))))

-- _law_top

def m__law_top : SM :=
    (seqS (ifS (bP (op2 eqP (pV (callM 2 f__law_take (aCons (vr 0) (aCons (kp (.int 2)) aNil)))) (kp (.int 0)))) (retS (callM 1 f__law_great (aCons (vr 0) aNil))) nxS)
    (retS (vP (op2 subI (kp (.int 0)) (pV (callM 1 f__law_great (aCons (vr 0) aNil)))))))

def f__law_top : List PV → M SV := runF 1 m__law_top

theorem sc__law_top : FnScope ["_law_bag_here"] ["_law_bag_here"] (defScope s__law_top) := ⟨rfl, rfl, rfl, by decide +kernel, rfl, by decide +kernel, by decide +kernel⟩

theorem ok__law_top (L : Lay P K mg base) : FnOk P w K mg base (L2.CX P w) 43 (He.ga K "_law_top") (d__law_top L) ["_law_bag_here"] (spF (GG K) 1 f__law_top) :=
  ok_of (h__law_top L) sc__law_top rfl fun cdv A outer s H E hr =>
    (r_scons (r_if (r_eqT rfl hr.units (r_pV (r_call (ok__law_take L) (hr.mono (by decide)) (h__law_take L).mg (h__law_take L).fn.kp (h__law_take L).b (takes_of rfl rfl rfl rfl) (r_cons (r_vr rfl) (r_cons r_int r_nil)))) r_int) (r_sone (r_ret (r_call (ok__law_great L) (hr.mono (by decide)) (h__law_great L).mg (h__law_great L).fn.kp (h__law_great L).b (takes_of rfl rfl rfl rfl) (r_cons (r_vr rfl) r_nil)))) r_snil)
    (r_sone (r_ret (r_vP (r_subI r_int (r_pV (r_call (ok__law_great L) (hr.mono (by decide)) (h__law_great L).mg (h__law_great L).fn.kp (h__law_great L).b (takes_of rfl rfl rfl rfl) (r_cons (r_vr rfl) r_nil))))))))

-- _law_low

def m__law_low : SM :=
    (seqS (asgT (cbS absF (aCons (vr 0) aNil)) (nmT 2))
    (seqS (asgT (vr 1) (nmT 3))
    (seqS (whileS (bP (op2 neP (vr 2) (kp (.int 0))))
    (parS 2 3 (aCons (op2 modI (vr 3) (vr 2)) (aCons (vr 2) aNil))))
    (retS (vP (tupE (aCons (op2 divI (vr 0) (vr 3)) (aCons (op2 divI (vr 1) (vr 3)) aNil))))))))

def f__law_low : List PV → M SV := runF 4 m__law_low

theorem sc__law_low : FnScope ["_law_top_here", "_law_bottom", "_law_one", "_law_other"] ["_law_top_here", "_law_bottom"] (defScope s__law_low) := ⟨rfl, rfl, rfl, by decide +kernel, rfl, by decide +kernel, by decide +kernel⟩

theorem ok__law_low (L : Lay P K mg base) : FnOk P w K mg base (L2.CX P w) 41 (He.ga K "_law_low") (d__law_low L) ["_law_top_here", "_law_bottom"] (spF (GG K) 2 f__law_low) :=
  ok_of (h__law_low L) sc__law_low rfl fun cdv A outer s H E hr =>
    (r_scons (r_asg (r_abs (L.free 3) (r_cons (r_vr rfl) r_nil)) (r_nmT sc__law_low.nd rfl))
    (r_scons (r_asg (r_vr rfl) (r_nmT sc__law_low.nd rfl))
    (r_scons (r_while (passes_of rfl) (r_neT rfl hr.units (r_vr rfl) r_int)
    (r_sone (r_par (i := 2) (j := 3) (ps_par (by rfl) sc__law_low.nd rfl rfl (by decide) rfl rfl (r_cons (r_modI (r_vr rfl) (r_vr rfl)) (r_cons (r_vr rfl) r_nil)) (by rfl)))))
    (r_sone (r_ret (r_vP (r_tup (r_cons (r_divI (big_of L.seer L.tree rfl rfl hr (by decide)) (r_vr rfl) (r_vr rfl)) (r_cons (r_divI (big_of L.seer L.tree rfl rfl hr (by decide)) (r_vr rfl) (r_vr rfl)) r_nil)))))))))

-- _law_any

def m__law_any : SM :=
    (retS (callM 2 f__law_low (aCons (pV (callM 1 f__law_top (aCons (vr 0) aNil))) (aCons (cbS max2F (aCons (kp (.int 1)) (aCons (pV (callM 1 f__law_great (aCons (vr 0) aNil))) aNil))) aNil))))

def f__law_any : List PV → M SV := runF 1 m__law_any

theorem sc__law_any : FnScope ["_law_bag_here"] ["_law_bag_here"] (defScope s__law_any) := ⟨rfl, rfl, rfl, by decide +kernel, rfl, by decide +kernel, by decide +kernel⟩

theorem ok__law_any (L : Lay P K mg base) : FnOk P w K mg base (L2.CX P w) 44 (He.ga K "_law_any") (d__law_any L) ["_law_bag_here"] (spF (GG K) 1 f__law_any) :=
  ok_of (h__law_any L) sc__law_any rfl fun cdv A outer s H E hr =>
    (r_sone (r_ret (r_call (ok__law_low L) (hr.mono (by decide)) (h__law_low L).mg (h__law_low L).fn.kp (h__law_low L).b (takes_of rfl rfl rfl rfl) (r_cons (r_pV (r_call (ok__law_top L) (hr.mono (by decide)) (h__law_top L).mg (h__law_top L).fn.kp (h__law_top L).b (takes_of rfl rfl rfl rfl) (r_cons (r_vr rfl) r_nil))) (r_cons (r_max2 rfl (L.free 5) (r_cons r_int (r_cons (r_pV (r_call (ok__law_great L) (hr.mono (by decide)) (h__law_great L).mg (h__law_great L).fn.kp (h__law_great L).b (takes_of rfl rfl rfl rfl) (r_cons (r_vr rfl) r_nil))) r_nil))) r_nil)))))

-- _law_raised

def m__law_raised : SM :=
    (seqS (ifS (bP (op2 eqP (vr 0) (kp (.int 0)))) (raise1S 0 (aCons (vr 1) aNil)) nxS)
    (seqS (ifS (bP (op2 eqP (vr 0) (kp (.int 1)))) (raise1S 1 (aCons (vr 1) aNil)) nxS)
    (seqS (ifS (bP (op2 eqP (vr 0) (kp (.int 2)))) (raise1S 2 (aCons (vr 1) aNil)) nxS)
    (seqS (ifS (bP (op2 eqP (vr 0) (kp (.int 3)))) (raise1S 5 (aCons (vr 1) aNil)) nxS)
    (seqS (ifS (bP (op2 eqP (vr 0) (kp (.int 4)))) (raise1S 6 (aCons (vr 1) aNil)) nxS)
    (seqS (ifS (bP (op2 eqP (vr 0) (kp (.int 5)))) (raise1S 8 (aCons (vr 1) aNil)) nxS)
    (seqS (ifS (bP (op2 eqP (vr 0) (kp (.int 6)))) (raise1S 9 (aCons (vr 1) aNil)) nxS)
    (seqS (ifS (bP (op2 eqP (vr 0) (kp (.int 7)))) (raise0S 3) nxS)
    (seqS (ifS (bP (op2 eqP (vr 0) (kp (.int 8)))) (raise0S 4) nxS)
    (raise0S 7))))))))))

def f__law_raised : List PV → M SV := runF 2 m__law_raised

theorem sc__law_raised : FnScope ["_law_which", "_law_held"] ["_law_which", "_law_held"] (defScope s__law_raised) := ⟨rfl, rfl, rfl, by decide +kernel, rfl, by decide +kernel, by decide +kernel⟩

theorem ok__law_raised (L : Lay P K mg base) : FnOk P w K mg base (L2.CX P w) 44 (He.ga K "_law_raised") (d__law_raised L) ["_law_which", "_law_held"] (spF (GG K) 2 f__law_raised) :=
  ok_of (h__law_raised L) sc__law_raised rfl fun cdv A outer s H E hr =>
    (r_scons (r_if (r_eqT rfl hr.units (r_vr rfl) r_int) (r_sone (r_raise1 (c := 0) (x_Wrong L) (ok_Wrong_init L) rfl (hr.mono (by decide)) (b_Wrong L) (takes_of rfl rfl rfl rfl) rfl (r_cons (r_vr rfl) r_nil))) r_snil)
    (r_scons (r_if (r_eqT rfl hr.units (r_vr rfl) r_int) (r_sone (r_raise1 (c := 1) (x_NoThing L) (ok_NoThing_init L) rfl (hr.mono (by decide)) (b_NoThing L) (takes_of rfl rfl rfl rfl) rfl (r_cons (r_vr rfl) r_nil))) r_snil)
    (r_scons (r_if (r_eqT rfl hr.units (r_vr rfl) r_int) (r_sone (r_raise1 (c := 2) (x_TooMany L) (ok_TooMany_init L) rfl (hr.mono (by decide)) (b_TooMany L) (takes_of rfl rfl rfl rfl) rfl (r_cons (r_vr rfl) r_nil))) r_snil)
    (r_scons (r_if (r_eqT rfl hr.units (r_vr rfl) r_int) (r_sone (r_raise1 (c := 5) (x_NotSteered L) (ok_NotSteered_init L) rfl (hr.mono (by decide)) (b_NotSteered L) (takes_of rfl rfl rfl rfl) rfl (r_cons (r_vr rfl) r_nil))) r_snil)
    (r_scons (r_if (r_eqT rfl hr.units (r_vr rfl) r_int) (r_sone (r_raise1 (c := 6) (x_NotSeen L) (ok_NotSeen_init L) rfl (hr.mono (by decide)) (b_NotSeen L) (takes_of rfl rfl rfl rfl) rfl (r_cons (r_vr rfl) r_nil))) r_snil)
    (r_scons (r_if (r_eqT rfl hr.units (r_vr rfl) r_int) (r_sone (r_raise1 (c := 8) (x_NoName L) (ok_NoName_init L) rfl (hr.mono (by decide)) (b_NoName L) (takes_of rfl rfl rfl rfl) rfl (r_cons (r_vr rfl) r_nil))) r_snil)
    (r_scons (r_if (r_eqT rfl hr.units (r_vr rfl) r_int) (r_sone (r_raise1 (c := 9) (x_Taken L) (ok_Taken_init L) rfl (hr.mono (by decide)) (b_Taken L) (takes_of rfl rfl rfl rfl) rfl (r_cons (r_vr rfl) r_nil))) r_snil)
    (r_scons (r_if (r_eqT rfl hr.units (r_vr rfl) r_int) (r_sone (r_raise0 (c := 3) (x_NoNumber L) (ok_NoNumber_init L) (hr.mono (by decide)) (b_NoNumber L) (takes_of rfl rfl rfl rfl) rfl)) r_snil)
    (r_scons (r_if (r_eqT rfl hr.units (r_vr rfl) r_int) (r_sone (r_raise0 (c := 4) (x_NoFit L) (ok_NoFit_init L) (hr.mono (by decide)) (b_NoFit L) (takes_of rfl rfl rfl rfl) rfl)) r_snil)
    (r_sone (r_raise0 (c := 7) (x_NoText L) (ok_NoText_init L) (hr.mono (by decide)) (b_NoText L) (takes_of rfl rfl rfl rfl) rfl)))))))))))

-- _law_caught

def m__law_caught : SM :=
    (tryS (exprS (callM 2 f__law_raised (aCons (vr 0) (aCons (vr 1) aNil))) fun _ => nxS) [⟨csOf [(0, true), (1, false), (2, false), (3, false), (4, false), (5, false), (6, false), (7, false), (8, false), (9, false)], (some 2), (retS (vP (tupE (aCons (kp (.int 0)) (aCons (op1S (xfldF 0 0) (vr 2)) (aCons (vr 2) aNil))))))⟩, ⟨csOf [(0, false), (1, true), (2, false), (3, false), (4, false), (5, false), (6, false), (7, false), (8, false), (9, false)], (some 2), (retS (vP (tupE (aCons (kp (.int 1)) (aCons (op1S (xfldF 1 0) (vr 2)) (aCons (vr 2) aNil))))))⟩, ⟨csOf [(0, false), (1, false), (2, true), (3, false), (4, false), (5, false), (6, false), (7, false), (8, false), (9, false)], (some 2), (retS (vP (tupE (aCons (kp (.int 2)) (aCons (op1S (xfldF 2 0) (vr 2)) (aCons (vr 2) aNil))))))⟩, ⟨csOf [(0, false), (1, false), (2, false), (3, false), (4, false), (5, true), (6, false), (7, false), (8, false), (9, false)], (some 2), (retS (vP (tupE (aCons (kp (.int 3)) (aCons (op1S (xfldF 5 0) (vr 2)) (aCons (vr 2) aNil))))))⟩, ⟨csOf [(0, false), (1, false), (2, false), (3, false), (4, false), (5, false), (6, true), (7, false), (8, false), (9, false)], (some 2), (retS (vP (tupE (aCons (kp (.int 4)) (aCons (op1S (xfldF 6 0) (vr 2)) (aCons (vr 2) aNil))))))⟩, ⟨csOf [(0, false), (1, false), (2, false), (3, false), (4, false), (5, false), (6, false), (7, false), (8, true), (9, false)], (some 2), (retS (vP (tupE (aCons (kp (.int 5)) (aCons (op1S (xfldF 8 0) (vr 2)) (aCons (vr 2) aNil))))))⟩, ⟨csOf [(0, false), (1, false), (2, false), (3, false), (4, false), (5, false), (6, false), (7, false), (8, false), (9, true)], (some 2), (retS (vP (tupE (aCons (kp (.int 6)) (aCons (op1S (xfldF 9 0) (vr 2)) (aCons (vr 2) aNil))))))⟩, ⟨csOf [(0, false), (1, false), (2, false), (3, true), (4, false), (5, false), (6, false), (7, false), (8, false), (9, false)], (some 2), (retS (vP (tupE (aCons (kp (.int 7)) (aCons (vr 1) (aCons (vr 2) aNil))))))⟩, ⟨csOf [(0, false), (1, false), (2, false), (3, false), (4, true), (5, false), (6, false), (7, false), (8, false), (9, false)], (some 2), (retS (vP (tupE (aCons (kp (.int 8)) (aCons (vr 1) (aCons (vr 2) aNil))))))⟩, ⟨csOf [(0, false), (1, false), (2, false), (3, false), (4, false), (5, false), (6, false), (7, true), (8, false), (9, false)], (some 2), (retS (vP (tupE (aCons (kp (.int 9)) (aCons (vr 1) (aCons (vr 2) aNil))))))⟩])

def f__law_caught : List PV → M SV := runF 3 m__law_caught

theorem sc__law_caught : FnScope ["_law_which", "_law_held", "_law_e"] ["_law_which", "_law_held"] (defScope s__law_caught) := ⟨rfl, rfl, rfl, by decide +kernel, rfl, by decide +kernel, by decide +kernel⟩

theorem ok__law_caught (L : Lay P K mg base) : FnOk P w K mg base (L2.CX P w) 45 (He.ga K "_law_caught") (d__law_caught L) ["_law_which", "_law_held"] (spF (GG K) 2 f__law_caught) :=
  ok_of (h__law_caught L) sc__law_caught rfl fun cdv A outer s H E hr =>
    (r_sone (r_try rfl rfl rfl rfl (takes_of rfl rfl rfl rfl) (fun W_ pn_ xe_ tk_ pa_ => (r_sone (r_expr (r_call (ok__law_raised L) (hr.mono (by decide)) (h__law_raised L).mg (h__law_raised L).fn.kp (h__law_raised L).b tk_ (r_cons (r_vr rfl) (r_cons (r_vr rfl) r_nil)))))) (HdMs.cons (c := .ref (He.ga K "Wrong")) ⟨rfl, rfl, .inl (g_Wrong L)⟩ ⟨sc__law_caught.nd, rfl, rfl⟩ (cs_ok (csC ((L.exm 15)) (csC ((L.exm 14)) (csC ((L.exm 13)) (csC ((L.exm 12)) (csC ((L.exm 11)) (csC ((L.exm 10)) (csC ((L.exm 9)) (csC ((L.exm 8)) (csC ((L.exm 7)) (csC ((L.exm 6)) csN))))))))))) (fun a_ oe_ cls_ d_ pn_ hz_ hv_ => (r_sone (r_ret (r_vP (r_tup (r_cons r_int (r_cons (r_xfld (c := 0) rfl (hd_suite hz_ hv_) (xf_Wrong L) (n_Wrong_at L) rfl (show (cfC 0).Nodup from by decide +kernel) (r_vr rfl)) (r_cons (r_vr rfl) r_nil)))))))) (HdMs.cons (c := .ref (He.ga K "NoThing")) ⟨rfl, rfl, .inl (g_NoThing L)⟩ ⟨sc__law_caught.nd, rfl, rfl⟩ (cs_ok (csC ((L.exm 25)) (csC ((L.exm 24)) (csC ((L.exm 23)) (csC ((L.exm 22)) (csC ((L.exm 21)) (csC ((L.exm 20)) (csC ((L.exm 19)) (csC ((L.exm 18)) (csC ((L.exm 17)) (csC ((L.exm 16)) csN))))))))))) (fun a_ oe_ cls_ d_ pn_ hz_ hv_ => (r_sone (r_ret (r_vP (r_tup (r_cons r_int (r_cons (r_xfld (c := 1) rfl (hd_suite hz_ hv_) (xf_NoThing L) (n_NoThing_at L) rfl (show (cfC 1).Nodup from by decide +kernel) (r_vr rfl)) (r_cons (r_vr rfl) r_nil)))))))) (HdMs.cons (c := .ref (He.ga K "TooMany")) ⟨rfl, rfl, .inl (g_TooMany L)⟩ ⟨sc__law_caught.nd, rfl, rfl⟩ (cs_ok (csC ((L.exm 35)) (csC ((L.exm 34)) (csC ((L.exm 33)) (csC ((L.exm 32)) (csC ((L.exm 31)) (csC ((L.exm 30)) (csC ((L.exm 29)) (csC ((L.exm 28)) (csC ((L.exm 27)) (csC ((L.exm 26)) csN))))))))))) (fun a_ oe_ cls_ d_ pn_ hz_ hv_ => (r_sone (r_ret (r_vP (r_tup (r_cons r_int (r_cons (r_xfld (c := 2) rfl (hd_suite hz_ hv_) (xf_TooMany L) (n_TooMany_most L) rfl (show (cfC 2).Nodup from by decide +kernel) (r_vr rfl)) (r_cons (r_vr rfl) r_nil)))))))) (HdMs.cons (c := .ref (He.ga K "NotSteered")) ⟨rfl, rfl, .inl (g_NotSteered L)⟩ ⟨sc__law_caught.nd, rfl, rfl⟩ (cs_ok (csC ((L.exm 45)) (csC ((L.exm 44)) (csC ((L.exm 43)) (csC ((L.exm 42)) (csC ((L.exm 41)) (csC ((L.exm 40)) (csC ((L.exm 39)) (csC ((L.exm 38)) (csC ((L.exm 37)) (csC ((L.exm 36)) csN))))))))))) (fun a_ oe_ cls_ d_ pn_ hz_ hv_ => (r_sone (r_ret (r_vP (r_tup (r_cons r_int (r_cons (r_xfld (c := 5) rfl (hd_suite hz_ hv_) (xf_NotSteered L) (n_NotSteered_price L) rfl (show (cfC 5).Nodup from by decide +kernel) (r_vr rfl)) (r_cons (r_vr rfl) r_nil)))))))) (HdMs.cons (c := .ref (He.ga K "NotSeen")) ⟨rfl, rfl, .inl (g_NotSeen L)⟩ ⟨sc__law_caught.nd, rfl, rfl⟩ (cs_ok (csC ((L.exm 55)) (csC ((L.exm 54)) (csC ((L.exm 53)) (csC ((L.exm 52)) (csC ((L.exm 51)) (csC ((L.exm 50)) (csC ((L.exm 49)) (csC ((L.exm 48)) (csC ((L.exm 47)) (csC ((L.exm 46)) csN))))))))))) (fun a_ oe_ cls_ d_ pn_ hz_ hv_ => (r_sone (r_ret (r_vP (r_tup (r_cons r_int (r_cons (r_xfld (c := 6) rfl (hd_suite hz_ hv_) (xf_NotSeen L) (n_NotSeen_state L) rfl (show (cfC 6).Nodup from by decide +kernel) (r_vr rfl)) (r_cons (r_vr rfl) r_nil)))))))) (HdMs.cons (c := .ref (He.ga K "NoName")) ⟨rfl, rfl, .inl (g_NoName L)⟩ ⟨sc__law_caught.nd, rfl, rfl⟩ (cs_ok (csC ((L.exm 65)) (csC ((L.exm 64)) (csC ((L.exm 63)) (csC ((L.exm 62)) (csC ((L.exm 61)) (csC ((L.exm 60)) (csC ((L.exm 59)) (csC ((L.exm 58)) (csC ((L.exm 57)) (csC ((L.exm 56)) csN))))))))))) (fun a_ oe_ cls_ d_ pn_ hz_ hv_ => (r_sone (r_ret (r_vP (r_tup (r_cons r_int (r_cons (r_xfld (c := 8) rfl (hd_suite hz_ hv_) (xf_NoName L) (n_NoName_name L) rfl (show (cfC 8).Nodup from by decide +kernel) (r_vr rfl)) (r_cons (r_vr rfl) r_nil)))))))) (HdMs.cons (c := .ref (He.ga K "Taken")) ⟨rfl, rfl, .inl (g_Taken L)⟩ ⟨sc__law_caught.nd, rfl, rfl⟩ (cs_ok (csC ((L.exm 75)) (csC ((L.exm 74)) (csC ((L.exm 73)) (csC ((L.exm 72)) (csC ((L.exm 71)) (csC ((L.exm 70)) (csC ((L.exm 69)) (csC ((L.exm 68)) (csC ((L.exm 67)) (csC ((L.exm 66)) csN))))))))))) (fun a_ oe_ cls_ d_ pn_ hz_ hv_ => (r_sone (r_ret (r_vP (r_tup (r_cons r_int (r_cons (r_xfld (c := 9) rfl (hd_suite hz_ hv_) (xf_Taken L) (n_Taken_name L) rfl (show (cfC 9).Nodup from by decide +kernel) (r_vr rfl)) (r_cons (r_vr rfl) r_nil)))))))) (HdMs.cons (c := .ref (He.ga K "NoNumber")) ⟨rfl, rfl, .inl (g_NoNumber L)⟩ ⟨sc__law_caught.nd, rfl, rfl⟩ (cs_ok (csC ((L.exm 85)) (csC ((L.exm 84)) (csC ((L.exm 83)) (csC ((L.exm 82)) (csC ((L.exm 81)) (csC ((L.exm 80)) (csC ((L.exm 79)) (csC ((L.exm 78)) (csC ((L.exm 77)) (csC ((L.exm 76)) csN))))))))))) (fun a_ oe_ cls_ d_ pn_ hz_ hv_ => (r_sone (r_ret (r_vP (r_tup (r_cons r_int (r_cons (r_vr rfl) (r_cons (r_vr rfl) r_nil)))))))) (HdMs.cons (c := .ref (He.ga K "NoFit")) ⟨rfl, rfl, .inl (g_NoFit L)⟩ ⟨sc__law_caught.nd, rfl, rfl⟩ (cs_ok (csC ((L.exm 95)) (csC ((L.exm 94)) (csC ((L.exm 93)) (csC ((L.exm 92)) (csC ((L.exm 91)) (csC ((L.exm 90)) (csC ((L.exm 89)) (csC ((L.exm 88)) (csC ((L.exm 87)) (csC ((L.exm 86)) csN))))))))))) (fun a_ oe_ cls_ d_ pn_ hz_ hv_ => (r_sone (r_ret (r_vP (r_tup (r_cons r_int (r_cons (r_vr rfl) (r_cons (r_vr rfl) r_nil)))))))) (HdMs.cons (c := .ref (He.ga K "NoText")) ⟨rfl, rfl, .inl (g_NoText L)⟩ ⟨sc__law_caught.nd, rfl, rfl⟩ (cs_ok (csC ((L.exm 105)) (csC ((L.exm 104)) (csC ((L.exm 103)) (csC ((L.exm 102)) (csC ((L.exm 101)) (csC ((L.exm 100)) (csC ((L.exm 99)) (csC ((L.exm 98)) (csC ((L.exm 97)) (csC ((L.exm 96)) csN))))))))))) (fun a_ oe_ cls_ d_ pn_ hz_ hv_ => (r_sone (r_ret (r_vP (r_tup (r_cons r_int (r_cons (r_vr rfl) (r_cons (r_vr rfl) r_nil)))))))) HdMs.nil))))))))))))

-- _law_kinds

def m__law_kinds : SM :=
    (seqS (asgT (pV (lstE (aCons (op1S (isxF (tabOf [(.x 0, true), (.x 1, false), (.x 2, false), (.x 3, false), (.x 4, false), (.x 5, false), (.x 6, false), (.x 7, false), (.x 8, false), (.x 9, false)])) (vr 0)) (aCons (op1S (isxF (tabOf [(.x 0, false), (.x 1, true), (.x 2, false), (.x 3, false), (.x 4, false), (.x 5, false), (.x 6, false), (.x 7, false), (.x 8, false), (.x 9, false)])) (vr 0)) (aCons (op1S (isxF (tabOf [(.x 0, false), (.x 1, false), (.x 2, true), (.x 3, false), (.x 4, false), (.x 5, false), (.x 6, false), (.x 7, false), (.x 8, false), (.x 9, false)])) (vr 0)) (aCons (op1S (isxF (tabOf [(.x 0, false), (.x 1, false), (.x 2, false), (.x 3, false), (.x 4, false), (.x 5, true), (.x 6, false), (.x 7, false), (.x 8, false), (.x 9, false)])) (vr 0)) aNil)))))) (nmT 1))
    (seqS (asgT (pV (lstE (aCons (op1S (isxF (tabOf [(.x 0, false), (.x 1, false), (.x 2, false), (.x 3, false), (.x 4, false), (.x 5, false), (.x 6, true), (.x 7, false), (.x 8, false), (.x 9, false)])) (vr 0)) (aCons (op1S (isxF (tabOf [(.x 0, false), (.x 1, false), (.x 2, false), (.x 3, false), (.x 4, false), (.x 5, false), (.x 6, false), (.x 7, false), (.x 8, true), (.x 9, false)])) (vr 0)) (aCons (op1S (isxF (tabOf [(.x 0, false), (.x 1, false), (.x 2, false), (.x 3, false), (.x 4, false), (.x 5, false), (.x 6, false), (.x 7, false), (.x 8, false), (.x 9, true)])) (vr 0)) (aCons (op1S (isxF (tabOf [(.x 0, false), (.x 1, false), (.x 2, false), (.x 3, true), (.x 4, false), (.x 5, false), (.x 6, false), (.x 7, false), (.x 8, false), (.x 9, false)])) (vr 0)) aNil)))))) (nmT 2))
    (retS (op2L catF (pV (op2L catF (vr 1) (vr 2))) (pV (lstE (aCons (op1S (isxF (tabOf [(.x 0, false), (.x 1, false), (.x 2, false), (.x 3, false), (.x 4, true), (.x 5, false), (.x 6, false), (.x 7, false), (.x 8, false), (.x 9, false)])) (vr 0)) (aCons (op1S (isxF (tabOf [(.x 0, false), (.x 1, false), (.x 2, false), (.x 3, false), (.x 4, false), (.x 5, false), (.x 6, false), (.x 7, true), (.x 8, false), (.x 9, false)])) (vr 0)) aNil))))))))

def f__law_kinds : List PV → M SV := runF 3 m__law_kinds

theorem sc__law_kinds : FnScope ["_law_e", "_law_one", "_law_two"] ["_law_e"] (defScope s__law_kinds) := ⟨rfl, rfl, rfl, by decide +kernel, rfl, by decide +kernel, by decide +kernel⟩

theorem ok__law_kinds (L : Lay P K mg base) : FnOk P w K mg base (L2.CX P w) 41 (He.ga K "_law_kinds") (d__law_kinds L) ["_law_e"] (spF (GG K) 1 f__law_kinds) :=
  ok_of (h__law_kinds L) sc__law_kinds rfl fun cdv A outer s H E hr =>
    (r_scons (r_asg (r_pV (r_lst (r_cons (r_isx (cv := (.ref (He.ga K "Wrong"))) (c := (.ref (He.ga K "Wrong"))) rfl (hd_none rfl) (L.free 2) (tab_ok (tabC ⟨of_decide_eq_true (L.fq 20), xc_Wrong L⟩ (tabC ⟨of_decide_eq_true (L.fq 21), xc_NoThing L⟩ (tabC ⟨of_decide_eq_true (L.fq 22), xc_TooMany L⟩ (tabC ⟨of_decide_eq_true (L.fq 23), xc_NoNumber L⟩ (tabC ⟨of_decide_eq_true (L.fq 24), xc_NoFit L⟩ (tabC ⟨of_decide_eq_true (L.fq 25), xc_NotSteered L⟩ (tabC ⟨of_decide_eq_true (L.fq 26), xc_NotSeen L⟩ (tabC ⟨of_decide_eq_true (L.fq 27), xc_NoText L⟩ (tabC ⟨of_decide_eq_true (L.fq 28), xc_NoName L⟩ (tabC ⟨of_decide_eq_true (L.fq 29), xc_Taken L⟩ tabN))))))))))) (fun _ h => h) (pe_glob rfl (g_Wrong L) rfl) (r_vr rfl)) (r_cons (r_isx (cv := (.ref (He.ga K "NoThing"))) (c := (.ref (He.ga K "NoThing"))) rfl (hd_none rfl) (L.free 2) (tab_ok (tabC ⟨of_decide_eq_true (L.fq 30), xc_Wrong L⟩ (tabC ⟨of_decide_eq_true (L.fq 31), xc_NoThing L⟩ (tabC ⟨of_decide_eq_true (L.fq 32), xc_TooMany L⟩ (tabC ⟨of_decide_eq_true (L.fq 33), xc_NoNumber L⟩ (tabC ⟨of_decide_eq_true (L.fq 34), xc_NoFit L⟩ (tabC ⟨of_decide_eq_true (L.fq 35), xc_NotSteered L⟩ (tabC ⟨of_decide_eq_true (L.fq 36), xc_NotSeen L⟩ (tabC ⟨of_decide_eq_true (L.fq 37), xc_NoText L⟩ (tabC ⟨of_decide_eq_true (L.fq 38), xc_NoName L⟩ (tabC ⟨of_decide_eq_true (L.fq 39), xc_Taken L⟩ tabN))))))))))) (fun _ h => h) (pe_glob rfl (g_NoThing L) rfl) (r_vr rfl)) (r_cons (r_isx (cv := (.ref (He.ga K "TooMany"))) (c := (.ref (He.ga K "TooMany"))) rfl (hd_none rfl) (L.free 2) (tab_ok (tabC ⟨of_decide_eq_true (L.fq 40), xc_Wrong L⟩ (tabC ⟨of_decide_eq_true (L.fq 41), xc_NoThing L⟩ (tabC ⟨of_decide_eq_true (L.fq 42), xc_TooMany L⟩ (tabC ⟨of_decide_eq_true (L.fq 43), xc_NoNumber L⟩ (tabC ⟨of_decide_eq_true (L.fq 44), xc_NoFit L⟩ (tabC ⟨of_decide_eq_true (L.fq 45), xc_NotSteered L⟩ (tabC ⟨of_decide_eq_true (L.fq 46), xc_NotSeen L⟩ (tabC ⟨of_decide_eq_true (L.fq 47), xc_NoText L⟩ (tabC ⟨of_decide_eq_true (L.fq 48), xc_NoName L⟩ (tabC ⟨of_decide_eq_true (L.fq 49), xc_Taken L⟩ tabN))))))))))) (fun _ h => h) (pe_glob rfl (g_TooMany L) rfl) (r_vr rfl)) (r_cons (r_isx (cv := (.ref (He.ga K "NotSteered"))) (c := (.ref (He.ga K "NotSteered"))) rfl (hd_none rfl) (L.free 2) (tab_ok (tabC ⟨of_decide_eq_true (L.fq 50), xc_Wrong L⟩ (tabC ⟨of_decide_eq_true (L.fq 51), xc_NoThing L⟩ (tabC ⟨of_decide_eq_true (L.fq 52), xc_TooMany L⟩ (tabC ⟨of_decide_eq_true (L.fq 53), xc_NoNumber L⟩ (tabC ⟨of_decide_eq_true (L.fq 54), xc_NoFit L⟩ (tabC ⟨of_decide_eq_true (L.fq 55), xc_NotSteered L⟩ (tabC ⟨of_decide_eq_true (L.fq 56), xc_NotSeen L⟩ (tabC ⟨of_decide_eq_true (L.fq 57), xc_NoText L⟩ (tabC ⟨of_decide_eq_true (L.fq 58), xc_NoName L⟩ (tabC ⟨of_decide_eq_true (L.fq 59), xc_Taken L⟩ tabN))))))))))) (fun _ h => h) (pe_glob rfl (g_NotSteered L) rfl) (r_vr rfl)) r_nil)))))) (r_nmT sc__law_kinds.nd rfl))
    (r_scons (r_asg (r_pV (r_lst (r_cons (r_isx (cv := (.ref (He.ga K "NotSeen"))) (c := (.ref (He.ga K "NotSeen"))) rfl (hd_none rfl) (L.free 2) (tab_ok (tabC ⟨of_decide_eq_true (L.fq 60), xc_Wrong L⟩ (tabC ⟨of_decide_eq_true (L.fq 61), xc_NoThing L⟩ (tabC ⟨of_decide_eq_true (L.fq 62), xc_TooMany L⟩ (tabC ⟨of_decide_eq_true (L.fq 63), xc_NoNumber L⟩ (tabC ⟨of_decide_eq_true (L.fq 64), xc_NoFit L⟩ (tabC ⟨of_decide_eq_true (L.fq 65), xc_NotSteered L⟩ (tabC ⟨of_decide_eq_true (L.fq 66), xc_NotSeen L⟩ (tabC ⟨of_decide_eq_true (L.fq 67), xc_NoText L⟩ (tabC ⟨of_decide_eq_true (L.fq 68), xc_NoName L⟩ (tabC ⟨of_decide_eq_true (L.fq 69), xc_Taken L⟩ tabN))))))))))) (fun _ h => h) (pe_glob rfl (g_NotSeen L) rfl) (r_vr rfl)) (r_cons (r_isx (cv := (.ref (He.ga K "NoName"))) (c := (.ref (He.ga K "NoName"))) rfl (hd_none rfl) (L.free 2) (tab_ok (tabC ⟨of_decide_eq_true (L.fq 70), xc_Wrong L⟩ (tabC ⟨of_decide_eq_true (L.fq 71), xc_NoThing L⟩ (tabC ⟨of_decide_eq_true (L.fq 72), xc_TooMany L⟩ (tabC ⟨of_decide_eq_true (L.fq 73), xc_NoNumber L⟩ (tabC ⟨of_decide_eq_true (L.fq 74), xc_NoFit L⟩ (tabC ⟨of_decide_eq_true (L.fq 75), xc_NotSteered L⟩ (tabC ⟨of_decide_eq_true (L.fq 76), xc_NotSeen L⟩ (tabC ⟨of_decide_eq_true (L.fq 77), xc_NoText L⟩ (tabC ⟨of_decide_eq_true (L.fq 78), xc_NoName L⟩ (tabC ⟨of_decide_eq_true (L.fq 79), xc_Taken L⟩ tabN))))))))))) (fun _ h => h) (pe_glob rfl (g_NoName L) rfl) (r_vr rfl)) (r_cons (r_isx (cv := (.ref (He.ga K "Taken"))) (c := (.ref (He.ga K "Taken"))) rfl (hd_none rfl) (L.free 2) (tab_ok (tabC ⟨of_decide_eq_true (L.fq 80), xc_Wrong L⟩ (tabC ⟨of_decide_eq_true (L.fq 81), xc_NoThing L⟩ (tabC ⟨of_decide_eq_true (L.fq 82), xc_TooMany L⟩ (tabC ⟨of_decide_eq_true (L.fq 83), xc_NoNumber L⟩ (tabC ⟨of_decide_eq_true (L.fq 84), xc_NoFit L⟩ (tabC ⟨of_decide_eq_true (L.fq 85), xc_NotSteered L⟩ (tabC ⟨of_decide_eq_true (L.fq 86), xc_NotSeen L⟩ (tabC ⟨of_decide_eq_true (L.fq 87), xc_NoText L⟩ (tabC ⟨of_decide_eq_true (L.fq 88), xc_NoName L⟩ (tabC ⟨of_decide_eq_true (L.fq 89), xc_Taken L⟩ tabN))))))))))) (fun _ h => h) (pe_glob rfl (g_Taken L) rfl) (r_vr rfl)) (r_cons (r_isx (cv := (.ref (He.ga K "NoNumber"))) (c := (.ref (He.ga K "NoNumber"))) rfl (hd_none rfl) (L.free 2) (tab_ok (tabC ⟨of_decide_eq_true (L.fq 90), xc_Wrong L⟩ (tabC ⟨of_decide_eq_true (L.fq 91), xc_NoThing L⟩ (tabC ⟨of_decide_eq_true (L.fq 92), xc_TooMany L⟩ (tabC ⟨of_decide_eq_true (L.fq 93), xc_NoNumber L⟩ (tabC ⟨of_decide_eq_true (L.fq 94), xc_NoFit L⟩ (tabC ⟨of_decide_eq_true (L.fq 95), xc_NotSteered L⟩ (tabC ⟨of_decide_eq_true (L.fq 96), xc_NotSeen L⟩ (tabC ⟨of_decide_eq_true (L.fq 97), xc_NoText L⟩ (tabC ⟨of_decide_eq_true (L.fq 98), xc_NoName L⟩ (tabC ⟨of_decide_eq_true (L.fq 99), xc_Taken L⟩ tabN))))))))))) (fun _ h => h) (pe_glob rfl (g_NoNumber L) rfl) (r_vr rfl)) r_nil)))))) (r_nmT sc__law_kinds.nd rfl))
    (r_sone (r_ret (r_cat (r_pV (r_cat (r_vr rfl) (r_vr rfl))) (r_pV (r_lst (r_cons (r_isx (cv := (.ref (He.ga K "NoFit"))) (c := (.ref (He.ga K "NoFit"))) rfl (hd_none rfl) (L.free 2) (tab_ok (tabC ⟨of_decide_eq_true (L.fq 100), xc_Wrong L⟩ (tabC ⟨of_decide_eq_true (L.fq 101), xc_NoThing L⟩ (tabC ⟨of_decide_eq_true (L.fq 102), xc_TooMany L⟩ (tabC ⟨of_decide_eq_true (L.fq 103), xc_NoNumber L⟩ (tabC ⟨of_decide_eq_true (L.fq 104), xc_NoFit L⟩ (tabC ⟨of_decide_eq_true (L.fq 105), xc_NotSteered L⟩ (tabC ⟨of_decide_eq_true (L.fq 106), xc_NotSeen L⟩ (tabC ⟨of_decide_eq_true (L.fq 107), xc_NoText L⟩ (tabC ⟨of_decide_eq_true (L.fq 108), xc_NoName L⟩ (tabC ⟨of_decide_eq_true (L.fq 109), xc_Taken L⟩ tabN))))))))))) (fun _ h => h) (pe_glob rfl (g_NoFit L) rfl) (r_vr rfl)) (r_cons (r_isx (cv := (.ref (He.ga K "NoText"))) (c := (.ref (He.ga K "NoText"))) rfl (hd_none rfl) (L.free 2) (tab_ok (tabC ⟨of_decide_eq_true (L.fq 110), xc_Wrong L⟩ (tabC ⟨of_decide_eq_true (L.fq 111), xc_NoThing L⟩ (tabC ⟨of_decide_eq_true (L.fq 112), xc_TooMany L⟩ (tabC ⟨of_decide_eq_true (L.fq 113), xc_NoNumber L⟩ (tabC ⟨of_decide_eq_true (L.fq 114), xc_NoFit L⟩ (tabC ⟨of_decide_eq_true (L.fq 115), xc_NotSteered L⟩ (tabC ⟨of_decide_eq_true (L.fq 116), xc_NotSeen L⟩ (tabC ⟨of_decide_eq_true (L.fq 117), xc_NoText L⟩ (tabC ⟨of_decide_eq_true (L.fq 118), xc_NoName L⟩ (tabC ⟨of_decide_eq_true (L.fq 119), xc_Taken L⟩ tabN))))))))))) (fun _ h => h) (pe_glob rfl (g_NoText L) rfl) (r_vr rfl)) r_nil)))))))))

-- law

def m_law : SM :=
    (seqS (cellS 1 (setV 1 (callM 1 f__law_bag (aCons (vr 0) aNil))))
    (seqS (asgT (pV (callM 2 f__law_take (aCons (vr 1) (aCons (kp (.int 1000)) aNil)))) (nmT 2))
    (seqS (asgT (pV (lcM (cbI rng1F (aCons (pV (callM 2 f__law_take (aCons (vr 1) (aCons (kp (.int 4)) aNil)))) aNil)) (nmT 8) yesT (pV (callM 1 f__law_any (aCons (vr 1) aNil))) [8])) (nmT 3))
    (seqS (asgT (slS (kp (.str (PySem.Str.ofString "abcdefgh"))) oNone (oSome (op2 addI (kp (.int 1)) (pV (callM 2 f__law_take (aCons (vr 1) (aCons (kp (.int 8)) aNil))))))) (nmT 4))
    (seqS (asgT (pV (lstE (aCons (vr 2) (aCons (vr 2) (aCons (vr 2) (aCons (vr 3) (aCons (vr 3) (aCons (vr 4) (aCons (vr 4) (aCons (kp (.int 0)) (aCons (kp (.int 0)) (aCons (kp (.int 0)) aNil)))))))))))) (nmT 5))
    (seqS (forS (cbI rng1F (aCons (kp (.int 10)) aNil)) (nmT 6)
    (seqS (asgT (pV (callM 2 f__law_caught (aCons (vr 6) (aCons (op2S ixF (vr 5) (vr 6)) aNil)))) (nmT 7))
    (seqS (ifS (orT (bP (op2 neP (op2S ixF (vr 7) (kp (.int 0))) (vr 6))) (bP (op2 neP (op2S ixF (vr 7) (kp (.int 1))) (op2S ixF (vr 5) (vr 6))))) (retS (vP (kp (.bl false)))) nxS)
    (seqS (ifS (orT (notT (bP (op1S (isxF (tabOf [(.x 0, true), (.x 1, true), (.x 2, true), (.x 3, true), (.x 4, true), (.x 5, true), (.x 6, true), (.x 7, true), (.x 8, true), (.x 9, true)])) (op2S ixF (vr 7) (kp (.int 2)))))) (notT (bP (op1S (isxF (tabOf [(.x 0, true), (.x 1, true), (.x 2, true), (.x 3, true), (.x 4, true), (.x 5, true), (.x 6, true), (.x 7, true), (.x 8, true), (.x 9, true)])) (op2S ixF (vr 7) (kp (.int 2))))))) (retS (vP (kp (.bl false)))) nxS)
    (ifS (bP (op2 neP (pV (callM 1 f__law_kinds (aCons (op2S ixF (vr 7) (kp (.int 2))) aNil))) (pV (lcM (cbI rng1F (aCons (kp (.int 10)) aNil)) (nmT 8) yesT (op2 eqP (vr 8) (vr 6)) [8])))) (retS (vP (kp (.bl false)))) nxS)))))
    (retS (vP (kp (.bl true))))))))))

def f_law : List PV → M SV := runF 9 m_law

theorem sc_law : FnScope ["_law_script", "_law_bag_here", "_law_many", "_law_row", "_law_name", "_law_helds", "_law_which", "_law_found", "_law_k"] ["_law_script"] (defScope s_law) := ⟨rfl, rfl, rfl, by decide +kernel, rfl, by decide +kernel, by decide +kernel⟩

theorem ok_law (L : Lay P K mg base) : FnOk P w K mg base (L2.CX P w) 46 (He.ga K "law") (d_law L) ["_law_script"] (spF (GG K) 1 f_law) :=
  ok_of (h_law L) sc_law rfl fun cdv A outer s H E hr =>
    (r_scons (r_cell (r_setV sc_law.nd rfl (r_call (ok__law_bag L) (hr.mono (by decide)) (h__law_bag L).mg (h__law_bag L).fn.kp (h__law_bag L).b (takes_of rfl rfl rfl rfl) (r_cons (r_vr rfl) r_nil))))
    (r_scons (r_asg (r_pV (r_call (ok__law_take L) (hr.mono (by decide)) (h__law_take L).mg (h__law_take L).fn.kp (h__law_take L).b (takes_of rfl rfl rfl rfl) (r_cons (r_vr rfl) (r_cons r_int r_nil)))) (r_nmT sc_law.nd rfl))
    (r_scons (r_setLcP (i := 3) (own := [("_law_k", 8)]) rfl sc_law.nd rfl (r_rng1 (L.free 0) (r_cons (r_pV (r_call (ok__law_take L) (hr.mono (by decide)) (h__law_take L).mg (h__law_take L).fn.kp (h__law_take L).b (takes_of rfl rfl rfl rfl) (r_cons (r_vr rfl) (r_cons r_int r_nil)))) r_nil)) (blkOk_by (by kernel_rfl)) (by decide) (fun _ _ _ _ _ => (r_nmT sc_law.nd rfl)) (fun _ _ _ _ _ => r_yes) (fun _ _ _ _ _ => (r_pV (r_call (ok__law_any L) (hr.mono (by decide)) (h__law_any L).mg (h__law_any L).fn.kp (h__law_any L).b takes0 (r_cons (r_vr rfl) r_nil)))))
    (r_scons (r_asg (r_slS r_str r_oNone (r_oSome (r_addI r_int (r_pV (r_call (ok__law_take L) (hr.mono (by decide)) (h__law_take L).mg (h__law_take L).fn.kp (h__law_take L).b (takes_of rfl rfl rfl rfl) (r_cons (r_vr rfl) (r_cons r_int r_nil))))))) (r_nmT sc_law.nd rfl))
    (r_scons (r_asg (r_pV (r_lst (r_cons (r_vr rfl) (r_cons (r_vr rfl) (r_cons (r_vr rfl) (r_cons (r_vr rfl) (r_cons (r_vr rfl) (r_cons (r_vr rfl) (r_cons (r_vr rfl) (r_cons r_int (r_cons r_int (r_cons r_int r_nil)))))))))))) (r_nmT sc_law.nd rfl))
    (r_scons (r_for (passes_of rfl) rfl (r_rng1 (L.free 0) (r_cons r_int r_nil)) (r_nmT sc_law.nd rfl)
    (r_scons (r_asg (r_pV (r_call (ok__law_caught L) (hr.mono (by decide)) (h__law_caught L).mg (h__law_caught L).fn.kp (h__law_caught L).b (takes_of rfl rfl rfl rfl) (r_cons (r_vr rfl) (r_cons (r_ix rfl (r_vr rfl) (r_vr rfl)) r_nil)))) (r_nmT sc_law.nd rfl))
    (r_scons (r_if (PW.pt (r_orW (r_neT rfl hr.units (r_ix rfl (r_vr rfl) r_int) (r_vr rfl)) (r_or1 (r_neT rfl hr.units (r_ix rfl (r_vr rfl) r_int) (r_ix rfl (r_vr rfl) (r_vr rfl)))))) (r_sone (r_ret (r_vP r_bl))) r_snil)
    (r_scons (r_if (PW.pt (r_orW (r_notT (r_bP (r_isx (cv := (.ref (He.ga K "SumError"))) (c := (.ref (He.ga K "SumError"))) rfl (hd_none rfl) (L.free 2) (tab_ok (tabC ⟨of_decide_eq_true (L.fq 10), xc_Wrong L⟩ (tabC ⟨of_decide_eq_true (L.fq 11), xc_NoThing L⟩ (tabC ⟨of_decide_eq_true (L.fq 12), xc_TooMany L⟩ (tabC ⟨of_decide_eq_true (L.fq 13), xc_NoNumber L⟩ (tabC ⟨of_decide_eq_true (L.fq 14), xc_NoFit L⟩ (tabC ⟨of_decide_eq_true (L.fq 15), xc_NotSteered L⟩ (tabC ⟨of_decide_eq_true (L.fq 16), xc_NotSeen L⟩ (tabC ⟨of_decide_eq_true (L.fq 17), xc_NoText L⟩ (tabC ⟨of_decide_eq_true (L.fq 18), xc_NoName L⟩ (tabC ⟨of_decide_eq_true (L.fq 19), xc_Taken L⟩ tabN))))))))))) (fun _ h => h) (pe_glob rfl (g_SumError L) rfl) (r_ix rfl (r_vr rfl) r_int)))) (r_or1 (r_notT (r_bP (r_isx (cv := (.type "ValueError")) (c := (.ty "ValueError")) rfl (hd_none rfl) (L.free 2) (tab_ok (tabC ⟨of_decide_eq_true (L.fq 0), xc_Wrong L⟩ (tabC ⟨of_decide_eq_true (L.fq 1), xc_NoThing L⟩ (tabC ⟨of_decide_eq_true (L.fq 2), xc_TooMany L⟩ (tabC ⟨of_decide_eq_true (L.fq 3), xc_NoNumber L⟩ (tabC ⟨of_decide_eq_true (L.fq 4), xc_NoFit L⟩ (tabC ⟨of_decide_eq_true (L.fq 5), xc_NotSteered L⟩ (tabC ⟨of_decide_eq_true (L.fq 6), xc_NotSeen L⟩ (tabC ⟨of_decide_eq_true (L.fq 7), xc_NoText L⟩ (tabC ⟨of_decide_eq_true (L.fq 8), xc_NoName L⟩ (tabC ⟨of_decide_eq_true (L.fq 9), xc_Taken L⟩ tabN))))))))))) (fun _ h => h) (pe_bltn (v := .ty "ValueError") rfl (L.free 1) rfl rfl) (r_ix rfl (r_vr rfl) r_int))))))) (r_sone (r_ret (r_vP r_bl))) r_snil)
    (r_sone (r_if (r_neT rfl hr.units (r_pV (r_call (ok__law_kinds L) (hr.mono (by decide)) (h__law_kinds L).mg (h__law_kinds L).fn.kp (h__law_kinds L).b (takes_of rfl rfl rfl rfl) (r_cons (r_ix rfl (r_vr rfl) r_int) r_nil))) (r_pV (r_lc (own := [("_law_k", 8)]) rfl sc_law.nd (r_rng1 (L.free 0) (r_cons r_int r_nil)) (blkOk_by (by kernel_rfl)) (by decide) (fun _ _ _ _ _ => (r_nmT sc_law.nd rfl)) (fun _ _ _ _ _ => r_yes) (fun _ _ _ _ _ => (r_eq rfl hr.units (r_vr rfl) (r_vr rfl)))))) (r_sone (r_ret (r_vP r_bl))) r_snil))))))
    (r_sone (r_ret (r_vP r_bl)))))))))

end
end

def loose0 : List Str := ["__name__", "SumError", "Wrong", "NoThing", "TooMany", "NoNumber", "NoFit", "NotSteered", "NotSeen", "NoText", "NoName", "Taken", "_law_bag", "_law_take", "_law_low", "_law_sum", "_law_less", "_law_prod", "_law_quot", "_law_great", "_law_top", "_law_any", "_law_pair", "_law_raised", "_law_caught", "_law_kinds"]
def loose : List Str := loose0

abbrev RR : PySem.W.OpenRow := PySem.W.OpenLaw.row PySem.Challenge.rw_helmsum_k17_refusals_apart
abbrev hk : PySem.W.Hook := hookY 4 fa fn fx
def ob (s : PySem.W.SharedT) : AlY := obsY 4 fa fn fx (HandSHeadRun.getT s)
theorem ob_eq (s : PySem.W.SharedT) : ob s = hk.obs s.abs := obsY_eq (HandSHeadRun.getT_eq s)
theorem run (w : World) : HandSHeadRun.RunEq RR (PySem.W.view RR.prog [27]) hk ob 4000 loose w := by
  intro os
  kernel_rfl
theorem facts {P : Program} {w : World} {K : PySem.W.Frag} {h : Heap} {mg : Str → Option Value} {f : Addr} (X : K.In h) (G : h.Ns mainGlobals mg) (hfa : mg ("law" : Str) = some (.ref f)) (ht : P.given.tree = none) (c : He.SaysD fa fn K) (cx : allQ fx K = true) :
    ∃ fd : FuncData, (∀ (s : Shared) (v : Value), BindsTo s fd ⟨[v], []⟩ [("_law_script", v)]) ∧ ∀ base : Heap, K.In base → base.Ns mainGlobals mg → base.NoSeer → FnOk P w K mg base (L2.CX P w) 46 f fd ["_law_script"] (spF (GG K) 1 f_law) := by
  obtain ⟨fd, F⟩ := c.def_ 9 (d := ⟨("law", none), "law", "law", defArgs s_law, defBody s_law, defScope s_law, [], []⟩) rfl
  have gl := He.glo_ok X G (c.fact 115 (f := .glo "law") rfl)
  have e := hfa.symm.trans gl
  cases e
  have b := FunD.bindsA (ps := ["_law_script"]) F fun _ _ _ _ _ _ us hl => match us, hl with | [_], _ => rfl
  refine ⟨fd, fun s v => b s [v] rfl, fun base _ _ NS => ?_⟩
  have L : Lay P K mg base := ⟨NS, ht, c, cx, h, X, G⟩
  have e2 : d_law L = fd := by
    have h1 := (h_law L).fn
    obtain ⟨_, _, _, _, _, _, _, _, _, _, e1, k1, _⟩ := h1.ex
    obtain ⟨_, _, _, _, _, _, _, _, _, _, e3, k3, _⟩ := F.ex
    have k4 := k1.symm.trans k3
    simp only [Option.some.injEq, Obj.mk.injEq, Data.func.injEq] at k4
    exact k4.2.2.1
  rw [← e2]
  exact ok_law L

theorem holds (law_true : ∀ ns : List Int, ns.length ≤ 63 → ∃ st, f_law [.rd (ns.map PV.int)] [] = .ok (.t (.bl true)) st) : PySem.Challenge.rw_helmsum_k17_refusals_apart.Holds := by
  open PySem.W PySem.Calls PyProof.Rows in
  w_on; o_law
  refine HandSHeadRun.head_any (r := PySem.W.OpenLaw.row PySem.Challenge.rw_helmsum_k17_refusals_apart) (q := PySem.W.view (PySem.W.OpenLaw.row PySem.Challenge.rw_helmsum_k17_refusals_apart).prog [27]) (H := hk) (ob := ob) (M := 4000) (loose := loose) (d := HandSHeadRun.topDef (PySem.W.OpenLaw.row PySem.Challenge.rw_helmsum_k17_refusals_apart).prog 27) (kwd := []) ob_eq
    (by kernel_rfl) (fun s => by kernel_rfl) run (by kernel_rfl) (by kernel_rfl) (by kernel_rfl) (by rfl) (by first | assumption | decide +kernel) (by decide +kernel) ⟨rfl, rfl, rfl, rfl, rfl, by decide +kernel⟩ ?hw ?hc
  case hw => w_witness2
  case hc =>
    refine L2.walk_ofN (l := PySem.Challenge.rw_helmsum_k17_refusals_apart) (n := 63) (k := 46) (x := "_law_script") (CX := fun w => L2.CX (PySem.Challenge.rw_helmsum_k17_refusals_apart).prog w) rfl (by decide) (by kernel_rfl) (by kernel_rfl) ⟨rfl, by decide, by decide⟩ ?F (fun w _ _ _ _ z => L2.cx_out z)
    intro w mg fa h Y G hmg0
    obtain ⟨K, KX, c, cx⟩ := Y
    have hmg : mg ("law" : PySem.Str) = some (.ref fa) := by
      have e : (HandSHeadRun.topDef (PySem.W.OpenLaw.row PySem.Challenge.rw_helmsum_k17_refusals_apart).prog 27).name = ("law" : PySem.Str) := by kernel_rfl
      rw [← e]
      exact hmg0
    obtain ⟨fd, hb, hF⟩ := facts (P := (PySem.Challenge.rw_helmsum_k17_refusals_apart).prog) (w := w) KX G hmg rfl c cx
    exact ⟨K, fd, _, KX, hb, fun H a ns hl hO hS => law_in rfl hO hS (law_true ns hl), hF⟩

end Mi.K17

set_option maxHeartbeats 1000000
namespace Mi.K17
open PySem L2
theorem tail_spec {E : Nat → List PV → Store → Prop} {Q : SV → Store → Prop} {s : Store} {n : Nat} {m : Int} {a4 a6 : SV} (hb : BagAt s n) (hm : 0 < m)
    (k : ∀ (v : Int) s', 0 ≤ v → v < m → BagAt s' n → s'.length = s.length → (∀ j, j ≠ n → s'[j]? = s[j]?) → Q (.t (.int v)) s') :
    ws (endR E Q) ((seqS (ifS (bP (op2 gtI (op2S ixF (vr 0) (kp (.int 0))) (kp (.int 0)))) (seqS (asgT (op2 modI (op2S ixF (vr 0) (kp (.int 0))) (vr 1)) (nmT 5))
    (seqS (setIxR (op2 divI (op2S ixF (vr 0) (kp (.int 0))) (vr 1)) (vr 0) (kp (.int 0)))
    (retV 5))) nxS)
    (seqS (asgT (op2 modI (op2 mulI (op2S ixF (vr 0) (kp (.int 1))) (kp (.int 39373))) (kp (.int 1000000007))) (nmT 2))
    (seqS (asgT (op2 modI (op2 mulI (vr 2) (kp (.int 30011))) (kp (.int 998244353))) (nmT 3))
    (seqS (ifS (bP (op2 gtI (vr 1) (kp (.int 1000000)))) (retS (vP (op2 modI (op2 addI (op2 mulI (vr 3) (kp (.int 1000000000))) (vr 2)) (vr 1)))) nxS)
    (retS (vP (op2 modI (op2 divI (vr 3) (kp (.int 3))) (vr 1)))))))) [.t (.ref n), .t (.int m), .un, .un, a4, .un, a6] s) := by
  obtain ⟨x0, x1, x2, cs, hst, h0, h1, h1b, h2, hcs, hln⟩ := hb
  have hlt : n < s.length := (List.getElem?_eq_some_iff.mp hst).1
  simp [ixF_ref hst, ixN, hst]
  by_cases hx : x0 ≤ 0
  · refine .inl ⟨hx, mulG_s (by omega) (by omega), mulG_s (by omega) (by omega), ?_⟩
    have hbag : BagAt s n := ⟨x0, x1, x2, cs, hst, h0, h1, h1b, h2, hcs, hln⟩
    by_cases hm2 : m ≤ 1000000
    · exact .inl ⟨hm2, hm, k _ _ (Int.emod_nonneg _ (by omega)) (Int.emod_lt_of_pos _ hm) hbag rfl fun _ _ => rfl⟩
    · exact .inr ⟨by omega, mulG_s (by omega) (by omega), hm, k _ _ (Int.emod_nonneg _ (by omega)) (Int.emod_lt_of_pos _ hm) hbag rfl fun _ _ => rfl⟩
  · refine .inr ⟨by omega, hm, ?_⟩
    refine k _ _ (Int.emod_nonneg _ (by omega)) (Int.emod_lt_of_pos _ hm) ⟨x0 / m, x1, x2, cs, ?_, Int.ediv_nonneg h0 (by omega), h1, h1b, h2, hcs, hln⟩ (by simp) fun j hj => List.getElem?_set_ne (Ne.symm hj)
    rw [List.getElem?_set_self hlt]
theorem take_spec {E : Nat → List PV → Store → Prop} {Q : SV → Store → Prop} {st : Store} {n : Nat} {m : Int} (hb : BagAt st n) (hm : 0 < m)
    (k : ∀ (v : Int) s, 0 ≤ v → v < m → BagAt s n → s.length = st.length → (∀ j, j ≠ n → s[j]? = st[j]?) → Q (.t (.int v)) s) : wp E Q (f__law_take [.ref n, .int m] st) := by
  obtain ⟨x0, x1, x2, cs, hst, h0, h1, h1b, h2, hcs, hln⟩ := hb
  have hlt : n < st.length := (List.getElem?_eq_some_iff.mp hst).1
  unfold f__law_take
  rw [wp_run]
  unfold m__law_take
  rw [ws_seq]
  have tl : ∀ {a4 a6 : SV} {s : Store}, BagAt s n → s.length = st.length → (∀ j, j ≠ n → s[j]? = st[j]?) → _ := fun {a4 a6 s} hb e1 e2 => tail_spec (E := E) (Q := Q) (s := s) (n := n) (m := m) (a4 := a4) (a6 := a6) hb hm fun v s' q1 q2 q3 q4 q5 => k v s' q1 q2 q3 (q4.trans e1) fun j hj => (q5 j hj).trans (e2 j hj)
  generalize (seqS (ifS (bP (op2 gtI (op2S ixF (vr 0) (kp (.int 0))) (kp (.int 0)))) _ nxS) _ : SM) = T at tl ⊢
  rw [ws_ifS]
  simp [envOf, ixF_ref hst, ixN, hst]
  by_cases hx : x0 = 0
  · refine .inr ⟨hx, ?_⟩
    by_cases hx2 : x2 < cs.length
    · refine .inr ⟨by omega, ?_⟩
      obtain ⟨c, hc, hat⟩ := atI_map h2 hx2
      have hc0 := hcs c hc
      refine ⟨_, hat, ws_augIxR ?_⟩
      have hs : ∀ x : Cell, (st.set n x)[n]? = some x := fun x => List.getElem?_set_self hlt
      have hi : ∀ (l : List PV) (i : Int), ixF (.ref n) (.int i) (st.set n (.lst l)) = atI l i := fun l i => ixF_ref (hs _)
      simp [ixN, drfL, hst, hs, hi]
      have fin : ∀ y0 : Int, 0 ≤ y0 → BagAt (st.set n (.lst [.int y0, .int ((x1 * 48271 + (c % 2147483647 + 1)) % 2147483647), .int (x2 + 1), .lst (cs.map PV.int)])) n := fun y0 hy =>
        ⟨y0, _, x2 + 1, cs, hs _, hy, by omega, by omega, by omega, hcs, hln⟩
      by_cases hc1 : c < 1000000000000000000
      · exact .inl ⟨hc1, mulG_s (by omega) (by omega), tl (fin x0 h0) (by simp) fun j hj => List.getElem?_set_ne (Ne.symm hj)⟩
      · exact .inr ⟨by omega, mulG_s (by omega) (by omega), tl (fin c hc0) (by simp) fun j hj => List.getElem?_set_ne (Ne.symm hj)⟩
    · refine .inl ⟨by omega, mulG_s (by omega) (by omega), tl ⟨x0, (x1 * 48271 + 12345) % 2147483647, x2, cs, ?_, h0, by omega, by omega, h2, hcs, hln⟩ (by simp) fun j hj => List.getElem?_set_ne (Ne.symm hj)⟩
      rw [List.getElem?_set_self hlt]
  · exact .inl ⟨hx, tl ⟨x0, x1, x2, cs, hst, h0, h1, h1b, h2, hcs, hln⟩ rfl fun _ _ => rfl⟩
theorem gcd_step {x y : Int} (hx : 0 ≤ x) (hy : 0 ≤ y) : Int.gcd (y % x) x = Int.gcd x y := by
  obtain ⟨m, rfl⟩ := Int.eq_ofNat_of_zero_le hx
  obtain ⟨n, rfl⟩ := Int.eq_ofNat_of_zero_le hy
  rw [show ((n : Int) % (m : Int)) = ((n % m : Nat) : Int) from rfl]
  simp only [Int.gcd_natCast_natCast]
  exact (Nat.gcd_rec m n).symm
theorem low_spec {E : Nat → List PV → Store → Prop} {Q : SV → Store → Prop} {st : Store} {a b : Int} (hb : 0 < b) (k : Q (.t (.tup [.int (a / (Int.gcd a b : Int)), .int (b / (Int.gcd a b : Int))])) st) : wp E Q (f__law_low [.int a, .int b] st) := by
  unfold f__law_low
  rw [wp_run]
  unfold m__law_low
  simp [envOf]
  refine ws_while (fun e s => s = st ∧ ∃ x y : Int, e = [.t (.int a), .t (.int b), .t (.int x), .t (.int y)] ∧ 0 ≤ x ∧ 0 < y ∧ Int.gcd x y = Int.gcd a b) (fun e _ => match e with
    | [_, _, .t (.int x), _] => x.toNat
    | _ => 0) ?_ ?_
  · rintro e s ⟨rfl, x, y, rfl, hx, hy, hg⟩
    simp
    by_cases h : x = 0
    · subst h
      have e : y = (Int.gcd a b : Int) := by
        rw [← hg]
        simp [Int.gcd]; omega
      refine .inl ⟨rfl, hy, by decide, ?_⟩
      rw [e]; exact k
    · refine .inr ⟨h, by omega, _, _, ⟨rfl, rfl⟩, ⟨y % x, x, ⟨rfl, rfl⟩, Int.emod_nonneg _ h, by omega, by rw [gcd_step hx (by omega), hg]⟩, ?_⟩
      show ((y % x).toNat : Int) < x
      have := Int.emod_lt_of_pos y (show 0 < x by omega)
      have := Int.emod_nonneg y h
      omega
  · refine ⟨rfl, _, _, rfl, by split <;> omega, hb, ?_⟩
    split
    · simp
    · rfl
/-- later, the bag still there -/
structure Bg (n : Nat) (st s : Store) : Prop where
  b : BagAt s n
  l : s.length = st.length
theorem Bg.trans {n : Nat} {a b c : Store} (x : Bg n a b) (y : Bg n b c) : Bg n a c := ⟨y.b, y.l.trans x.l⟩
variable {E : Nat → List PV → Store → Prop} {Q : SV → Store → Prop} {st : Store} {n : Nat}
theorem take_s {m : Int} (hb : BagAt st n) (hm : 0 < m) (k : ∀ (v : Int) s, 0 ≤ v → v < m → Bg n st s → Q (.t (.int v)) s) : wp E Q (f__law_take [.ref n, .int m] st) :=
  take_spec hb hm fun v s h0 h1 h2 h3 _ => k v s h0 h1 ⟨h2, h3⟩
theorem powI_c (i j : Int) (h : (decide (0 ≤ j) && (decide (j ≤ 1000000) && decide (i.natAbs < 2 ^ 64))) = true) : powI (.int i) (.int j) = some (.int (i ^ j.toNat)) := by
  show (if _ then _ else _) = _
  rw [if_pos h]
theorem great_s (hb : BagAt st n) (k : ∀ (v : Int) s, 0 ≤ v → v < 10 ^ 61 → Bg n st s → Q (.t (.int v)) s) : wp E Q (f__law_great [.ref n] st) := by
  unfold f__law_great
  rw [wp_run]
  unfold m__law_great
  simp [envOf, powI_c]
  refine take_s hb (by decide) fun w s h0 h1 b1 => ?_
  by_cases w0 : w = 0
  · simp [w0]
    exact take_s b1.b (by decide) fun v s2 h2 h3 b2 => k v s2 h2 (by omega) (b1.trans b2)
  by_cases w1 : w = 1
  · simp [w1]
    exact take_s b1.b (by decide) fun v s2 h2 h3 b2 => k v s2 h2 (by omega) (b1.trans b2)
  by_cases w2 : w = 2
  · simp [w2, powI_c]
    exact take_s b1.b (by decide) fun v s2 h2 h3 b2 => k v s2 h2 (by omega) (b1.trans b2)
  by_cases w3 : w = 3
  · simp [w3]
    refine ws_for ?_
    simp
    refine take_s b1.b (by decide) fun v s2 h2 h3 b2 => ?_
    refine ⟨_, rng1F_ok h2 (by omega), fun i e s => i ≤ 60 ∧ Bg n st s ∧ ∃ p, e = [.t (.ref n), .t (.int 3), .t (.int (10 ^ i)), p], ⟨by omega, b1.trans b2, .un, rfl⟩, ?_, ?_⟩
    · rintro i e s hi ⟨hi2, hbg, p, rfl⟩
      simp only [rngItm_n] at hi
      have hi3 : i < 60 := by omega
      have hp : (10 : Int) ^ i ≤ 10 ^ 60 := by
        have := Nat.pow_le_pow_right (n := 10) (by decide) (show i ≤ 60 by omega)
        exact_mod_cast this
      have hp0 : (0 : Int) ≤ 10 ^ i := by
        have := Nat.zero_le (10 ^ i)
        exact_mod_cast this
      simp
      exact ⟨mulG_100 (by omega) (by decide), by omega, hbg, by rw [Int.pow_succ]⟩
    · rintro e s ⟨hi2, hbg, p, rfl⟩
      simp only [rngItm_n] at hi2 ⊢
      have hp : (10 : Int) ^ v.toNat ≤ 10 ^ 60 := by
        have := Nat.pow_le_pow_right (n := 10) (by decide) hi2
        exact_mod_cast this
      have hp0 : (0 : Int) ≤ 10 ^ v.toNat := by
        have := Nat.zero_le (10 ^ v.toNat)
        exact_mod_cast this
      simp
      exact k _ s hp0 (by omega) hbg
  by_cases w4 : w = 4
  · simp [w4, powI_c]
    refine take_s b1.b (by decide) fun v s2 h2 h3 b2 => ?_
    simp
    refine take_s b2.b (by decide) fun v2 s3 h4 h5 b3 => ?_
    simp
    have m1 : v * v2 ≤ 10 ^ 18 * 10 ^ 18 := Int.mul_le_mul (by omega) (by omega) h4 (by decide)
    have m0 : 0 ≤ v * v2 := Int.mul_nonneg h2 h4
    refine ⟨mulG_100 (by omega) (by omega), ?_⟩
    refine take_s b3.b (by decide) fun v3 s4 h6 h7 b4 => ?_
    have m2 : v * v2 * v3 ≤ 10 ^ 36 * 10 ^ 18 := Int.mul_le_mul (by omega) (by omega) h6 (by decide)
    simp
    exact ⟨mulG_100 (by omega) (by omega), k _ s4 (Int.mul_nonneg m0 h6) (by omega) (b1.trans (b2.trans (b3.trans b4)))⟩
  simp [w0, w1, w2, w3, w4, powI_c]
  refine take_s b1.b (by decide) fun v s2 h2 h3 b2 => ?_
  simp
  exact k _ s2 (by omega) (by omega) (b1.trans b2)
theorem top_s (hb : BagAt st n) (k : ∀ (v : Int) s, -(10 ^ 61) < v → v < 10 ^ 61 → Bg n st s → Q (.t (.int v)) s) : wp E Q (f__law_top [.ref n] st) := by
  unfold f__law_top
  rw [wp_run]
  unfold m__law_top
  simp [envOf]
  refine take_s hb (by decide) fun w s h0 h1 b1 => ?_
  by_cases w0 : w = 0
  · simp [w0]
    exact great_s b1.b fun v s2 h2 h3 b2 => k v s2 (by omega) h3 (b1.trans b2)
  · simp [w0]
    refine great_s b1.b fun v s2 h2 h3 b2 => ?_
    simp
    exact k _ s2 (by omega) (by omega) (b1.trans b2)
theorem any_s (hb : BagAt st n) (k : ∀ (a b : Int) s, 0 < b → Int.gcd a b = 1 → -(10 ^ 61) < a → a < 10 ^ 61 → b ≤ 10 ^ 61 → Bg n st s → Q (.t (.tup [.int a, .int b])) s) : wp E Q (f__law_any [.ref n] st) := by
  unfold f__law_any
  rw [wp_run]
  unfold m__law_any
  simp [envOf]
  refine top_s hb fun v s h0 h1 b1 => ?_
  simp
  refine great_s b1.b fun u s2 h2 h3 b2 => ?_
  simp
  have hu : 0 < (if 1 < u then u else 1) := by split <;> omega
  have hu2 : (if 1 < u then u else 1) ≤ 10 ^ 61 := by split <;> omega
  refine low_spec hu ?_
  generalize (if 1 < u then u else 1) = d at hu hu2 ⊢
  have g0 : 0 < Int.gcd v d := Int.gcd_pos_of_ne_zero_right _ (by omega)
  have g1 : (1 : Int) ≤ (Int.gcd v d : Int) := by omega
  have c1 : -(10 ^ 61) < v / (Int.gcd v d : Int) := by
    have := Int.le_ediv_of_mul_le (a := -(10 ^ 61) + 1) (b := v) (c := (Int.gcd v d : Int)) (by omega) (by
      have := Int.mul_le_mul_of_nonpos_left (a := (-(10 ^ 61) + 1 : Int)) (by decide) g1
      omega)
    omega
  have c2 : v / (Int.gcd v d : Int) < 10 ^ 61 := Int.ediv_lt_of_lt_mul (by omega) (by
      have := Int.mul_le_mul_of_nonneg_left (c := (10 ^ 61 : Int)) g1 (by decide)
      omega)
  have c3 : d / (Int.gcd v d : Int) ≤ 10 ^ 61 := by
    have := Int.ediv_lt_of_lt_mul (a := d) (b := 10 ^ 61 + 1) (c := (Int.gcd v d : Int)) (by omega) (by
      have := Int.mul_le_mul_of_nonneg_left (c := (10 ^ 61 + 1 : Int)) g1 (by decide)
      omega)
    omega
  exact k _ _ s2 (Int.ediv_pos_of_pos_of_dvd hu (by omega) (Int.gcd_dvd_right ..)) (Int.gcd_ediv_gcd_ediv_gcd g0) c1 c2 c3 (b1.trans b2)
theorem cutP_map {α β : Type} {f : α → β} {l : List α} {lo hi : Option Int} : cutP (l.map f) lo hi = (cutP l lo hi).map f := by
  unfold cutP
  simp [List.map_take, List.map_drop]
theorem cutP_len {α : Type} {l : List α} {lo hi : Option Int} : (cutP l lo hi).length ≤ l.length := by
  unfold cutP
  simp
  omega
theorem bag_s {ns : List Int} (hn : ns.length ≤ 63) (k : ∀ cs : List Int, (∀ c ∈ cs, 0 ≤ c) → cs.length ≤ 63 → Q (.own (.lst [.int 0, .int 1234567891, .int 0, .lst (cs.map PV.int)])) st) : wp E Q (f__law_bag [.rd (ns.map PV.int)] st) := by
  unfold f__law_bag
  rw [wp_run]
  unfold m__law_bag
  simp [envOf]
  refine wp_lc ?_
  simp [itOf]
  rw [cutP_map]
  have hl : (cutP ns none (some 63)).length ≤ 63 := Nat.le_trans cutP_len hn
  generalize cutP ns none (some 63) = ms at hl ⊢
  refine ⟨fun i acc s => s = st ∧ ∃ cs : List Int, acc = cs.map PV.int ∧ (∀ c ∈ cs, 0 ≤ c) ∧ cs.length = i, ⟨rfl, [], rfl, by simp, rfl⟩, ?_, ?_⟩
  · rintro i acc s hi ⟨rfl, cs, rfl, hc, hlen⟩
    simp at hi
    refine ⟨.int ms[i], by simp [List.getElem?_eq_getElem hi], ?_⟩
    simp [wipeE]
    refine ⟨by rw [sizeLine_eq]; omega, cs ++ [if ms[i] < 0 then -ms[i] else ms[i]], by simp, ?_, by simp [hlen]⟩
    intro c hm
    simp at hm
    rcases hm with hm | rfl
    · exact hc c hm
    · split <;> omega
  · rintro acc s ⟨rfl, cs, rfl, hc, hlen⟩
    rw [List.length_map] at hlen
    exact ⟨by decide, k cs hc (by omega)⟩
end Mi.K17

set_option maxHeartbeats 2000000
namespace Mi.K17
open PySem L2
variable {E : Nat → List PV → Store → Prop} {Q : SV → Store → Prop} {st : Store} {n : Nat}
def xc (w : Int) : Nat := [0, 1, 2, 5, 6, 8, 9, 3, 4, 7].getD w.toNat 0
def xl (w : Int) (h : PV) : List PV := if w < 7 then [h] else []
theorem caught_s {w : Int} {h : PV} (hw : w = 0 ∨ w = 1 ∨ w = 2 ∨ w = 3 ∨ w = 4 ∨ w = 5 ∨ w = 6 ∨ w = 7 ∨ w = 8 ∨ w = 9) (k : Q (.t (.tup [.int w, h, .exv (xc w) (xl w h)])) st) : wp E Q (f__law_caught [.int w, h] st) := by
  unfold f__law_caught
  rw [wp_run]
  unfold m__law_caught
  rw [ws_try]
  rcases hw with rfl | rfl | rfl | rfl | rfl | rfl | rfl | rfl | rfl | rfl <;>
    (simp [envOf, f__law_raised, wp_run, m__law_raised, catchS, csOf, List.lookup, putM, xfldF]
     exact ⟨by decide, k⟩)
def W10 (w : Int) : Prop := w = 0 ∨ w = 1 ∨ w = 2 ∨ w = 3 ∨ w = 4 ∨ w = 5 ∨ w = 6 ∨ w = 7 ∨ w = 8 ∨ w = 9
def kl (w : Int) : List PV := (List.range 10).map fun (k : Nat) => PV.bl (decide ((k : Int) = w))
theorem kinds_s {w : Int} {l : List PV} (hw : W10 w) (k : Q (.own (.lst (kl w))) st) : wp E Q (f__law_kinds [.exv (xc w) l] st) := by
  unfold f__law_kinds
  rw [wp_run]
  unfold m__law_kinds
  rcases hw with rfl | rfl | rfl | rfl | rfl | rfl | rfl | rfl | rfl | rfl <;>
    (simp [envOf, isxF, tyX, tabOf, List.lookup, xc, catF, drfL]
     exact ⟨by decide, _, ⟨by decide, rfl⟩, by decide, _, ⟨by decide, rfl⟩, k⟩)
end Mi.K17

set_option maxHeartbeats 2000000
namespace Mi.K17
open PySem L2
variable {E : Nat → List PV → Store → Prop} {Q : SV → Store → Prop} {st : Store} {n : Nat}
/-- what is held at each -/
def hel (m : Int) (row : List PV) (nm : Str) : List PV := [.int m, .int m, .int m, .lst row, .lst row, .str nm, .str nm, .int 0, .int 0, .int 0]
theorem da_row {l : List (Int × Int)} (hl : l.length ≤ 3) : Da (.lst (l.map fun q => .tup [.int q.1, .int q.2])) := by
  match l, hl with
  | [], _ => exact ⟨_, rfl, rfl⟩
  | [_], _ => exact ⟨_, rfl, rfl⟩
  | [_, _], _ => exact ⟨_, rfl, rfl⟩
  | [_, _, _], _ => exact ⟨_, rfl, rfl⟩
theorem da_name {v : Int} (h0 : 0 ≤ v) (h1 : v < 8) : SeqAt.shaped (.str (cutS (PySem.Str.ofString "abcdefgh") none (some (1 + v)))) = true := by
  have h : v = 0 ∨ v = 1 ∨ v = 2 ∨ v = 3 ∨ v = 4 ∨ v = 5 ∨ v = 6 ∨ v = 7 := by omega
  rcases h with rfl | rfl | rfl | rfl | rfl | rfl | rfl | rfl <;> decide +kernel
theorem tabT {w : Int} {l : List PV} (hw : W10 w) : isxF (tabOf [(.x 0, true), (.x 1, true), (.x 2, true), (.x 3, true), (.x 4, true), (.x 5, true), (.x 6, true), (.x 7, true), (.x 8, true), (.x 9, true)]) (.exv (xc w) l) st = some (.bl true) := by
  rcases hw with rfl | rfl | rfl | rfl | rfl | rfl | rfl | rfl | rfl | rfl <;> simp [xc, isxF, tyX, tabOf, List.lookup]
theorem da_kl {w : Int} : Da (.lst (kl w)) := ⟨_, rfl, rfl⟩
theorem law_true (ns : List Int) (hn : ns.length ≤ 63) : ∃ st, f_law [.rd (ns.map PV.int)] [] = .ok (.t (.bl true)) st := by
  have key : wp noE (fun v _ => v = .t (.bl true)) (f_law [.rd (ns.map PV.int)] []) := by
    unfold f_law
    rw [wp_run]
    unfold m_law
    rw [ws_seq]
    refine ws_cell ?_
    simp [envOf]
    refine bag_s hn fun cs hc hcl => ?_
    simp [Cell.live]
    have b0 : BagAt [Cell.lst [PV.int 0, PV.int 1234567891, PV.int 0, PV.lst (List.map PV.int cs)]] 0 := ⟨0, 1234567891, 0, cs, rfl, by decide, by decide, by decide, by decide, hc, hcl⟩
    refine take_s b0 (by decide) fun m s1 h0 h1 b1 => ?_
    simp
    refine wp_lc ?_
    simp
    refine take_s b1.b (by decide) fun r s2 h2 h3 b2 => ?_
    simp
    refine ⟨_, rng1F_ok h2 (by omega), fun i acc s => BagAt s 0 ∧ ∃ l : List (Int × Int), acc = l.map (fun q => .tup [.int q.1, .int q.2]) ∧ l.length = i, ⟨b2.b, [], rfl, rfl⟩, ?_, ?_⟩
    · rintro i acc s hi ⟨hb, l, rfl, hl⟩
      simp at hi
      simp [wipeE]
      refine any_s hb fun a b s2 _ _ _ _ _ bb => ?_
      simp
      exact ⟨by rw [sizeLine_eq]; omega, bb.b, l ++ [(a, b)], by simp, by simp [hl]⟩
    · rintro acc s ⟨hb, l, rfl, hl⟩
      simp at hl
      simp
      refine take_s hb (by decide) fun v s3 h4 h5 b3 => ?_
      simp
      have dr : Da (.lst (l.map fun q => .tup [.int q.1, .int q.2])) := da_row (by omega)
      have dn := da_name h4 h5
      generalize cutS (PySem.Str.ofString "abcdefgh") none (some (1 + v)) = nm at dn ⊢
      generalize hrow : (l.map fun q => PV.tup [.int q.1, .int q.2]) = row at dr ⊢
      refine ⟨by decide, by decide, ?_⟩
      refine ws_for ?_
      simp
      refine ⟨_, rng1F_ok (by decide) (by decide), fun i e s2 => s2 = s3 ∧ ∃ a b, e = [.t (.rd (ns.map PV.int)), .t (.ref 0), .t (.int m), .t (.lst row), .t (.str nm), .t (.lst (hel m row nm)), a, b, .un], ⟨rfl, _, _, rfl⟩, ?_, fun e s ⟨_, a, b, e2⟩ => by subst e2; simp⟩
      rintro i e s4 hi ⟨rfl, a, b, rfl⟩
      have hi : i < 10 := hi
      have hw : W10 (i : Int) := by unfold W10; omega
      have hat : ∃ h, (hel m row nm)[i]? = some h ∧ Da h := by
        match i, hi with
        | 0, _ => exact ⟨_, rfl, da_int⟩
        | 1, _ => exact ⟨_, rfl, da_int⟩
        | 2, _ => exact ⟨_, rfl, da_int⟩
        | 3, _ => exact ⟨_, rfl, dr⟩
        | 4, _ => exact ⟨_, rfl, dr⟩
        | 5, _ => exact ⟨_, rfl, da_str dn⟩
        | 6, _ => exact ⟨_, rfl, da_str dn⟩
        | 7, _ => exact ⟨_, rfl, da_int⟩
        | 8, _ => exact ⟨_, rfl, da_int⟩
        | 9, _ => exact ⟨_, rfl, da_int⟩
      obtain ⟨h, hat, hda⟩ := hat
      have hat2 : atI (hel m row nm) (i : Int) = some h := by rw [atI_nat]; exact hat
      simp [hat2]
      refine caught_s hw ?_
      simp [neP_refl hda, hat2]
      refine ⟨_, tabT hw, rfl, _, tabT hw, rfl, kinds_s hw ?_⟩
      simp
      refine wp_lc ?_
      simp
      refine ⟨_, rng1F_ok (by decide) (by decide), fun j acc s5 => s5 = s4 ∧ acc = (List.range j).map fun (k : Nat) => PV.bl (decide ((k : Int) = (i : Int))), ⟨rfl, rfl⟩, ?_, ?_⟩
      · rintro j acc s5 hj ⟨rfl, rfl⟩
        have hj : j < 10 := hj
        simp [wipeE]
        refine ⟨by rw [sizeLine_eq]; omega, ?_⟩
        rw [List.range_succ, List.map_append]
        simp
      · rintro acc s5 ⟨rfl, rfl⟩
        refine ⟨rfl, ?_⟩
        have e : (List.range 10).map (fun (k : Nat) => PV.bl (decide ((k : Int) = (i : Int)))) = kl (i : Int) := rfl
        simp [e, neP_refl (da_kl (w := (i : Int)))]
  obtain ⟨a, s, e, h⟩ := wp_get key
  exact ⟨s, by rw [e, h]⟩
end Mi.K17

theorem PySem.Challenge.cw_helmsum_k17_refusals_apart_holds : PySem.Challenge.rw_helmsum_k17_refusals_apart.Holds :=
  Mi.K17.holds Mi.K17.law_true
