import PyProof.Rows.All
import Wide.All
import OpenK.AllK
import Wide.FinOn
import HandS.ForMost
import HandS.ForExc
import HandS.IsInst
import HandS.TupAny
import HandS.TupMul
import HandS.Conv
import HandS.SetFor
import HandS.Rev
import PySem.Challenge.RW_tidemark_k81_defects_of_roots
set_option Elab.async false
set_option linter.all false
set_option maxRecDepth 100000
/-! Tm: plain data over the hand layer. D: data; Rep: how the heap bears it; Rel: a state of the mirror against slots and heap. -/
namespace Tm
open PySem L2

inductive Tg where
  | lst
  | rol
  | dic (ks : List Key)
  | dit (ks : List (List Key))
  | ins (c : Nat) (fs : List Str)

/-- plain data: own objects bear true -/
inductive D where
  | non
  | bl (b : Bool)
  | int (i : Int)
  | str (s : Str)
  | tup (xs : List D)
  | obj (o : Bool) (t : Tg) (xs : List D)
  | box (n : Nat)
  | fn (n : Nat)
  | cl (n : Nat)

mutual
def D.frz : D → D
  | .obj _ t xs => .obj false t (frzL xs)
  | .non => .non
  | .bl b => .bl b
  | .int i => .int i
  | .str s => .str s
  | .tup xs => .tup xs
  | .box n => .box n
  | .fn n => .fn n
  | .cl n => .cl n
def frzL : List D → List D
  | [] => []
  | x :: r => x.frz :: frzL r
end
mutual
def D.isF : D → Bool
  | .obj o _ xs => !o && isFL xs
  | .non => true
  | .bl _ => true
  | .int _ => true
  | .str _ => true
  | .tup xs => isFL xs
  | .box _ => true
  | .fn _ => true
  | .cl _ => true
def isFL : List D → Bool
  | [] => true
  | x :: r => x.isF && isFL r
end

/-- the program's classes and defs by number: fixed through a law -/
structure Tb where
  ca : Nat → Addr
  fa : Nat → Addr

/-- ghosts: where the boxes stand, what is frozen -/
structure Gh where
  bs : List Addr
  Z : Addr → Prop

def HoOf (tb : Tb) (t : Tg) (vs : List V) (o : HO) : Prop := match t with
  | .lst => o = .lst vs
  | .rol => False
  | .dic ks => ks.length = vs.length ∧ o = .dK (ks.zip vs)
  | .dit ks => ks.length = vs.length ∧ o = .dT (ks.zip vs)
  | .ins c fs => fs.length = vs.length ∧ ∃ dx, o = .ins (tb.ca c) dx (fs.zip vs)

/-- a list, a tuple of the written part -/
def KL (K : PySem.W.Frag) (a : Addr) (xs : List V) : Prop := ∃ (o : Obj) (its : Array Value) (n : Nat), K.lookup a = some o ∧ o.cls = .type "list" ∧ o.dict = none ∧ o.data = .seq its n ∧ its.size ≤ sizeLine ∧ Vals xs its.toList
def KT (K : PySem.W.Frag) (a : Addr) (xs : List V) : Prop := ∃ (o : Obj) (its : Array Value) (n : Nat), K.lookup a = some o ∧ o.cls = .type "tuple" ∧ o.data = .seq its n ∧ its.size ≤ sizeLine ∧ Vals xs its.toList

section
variable (K : PySem.W.Frag) (tb : Tb) (g : Gh) (H : Hp)
mutual
/-- the value v bears the data d; the own objects of d stand at the addresses -/
inductive Rep : D → V → List Addr → Prop
  | non : Rep .non .non []
  | bl (b : Bool) : Rep (.bl b) (.bl b) []
  | int (i : Int) : Rep (.int i) (.int i) []
  | str (s : Str) : Rep (.str s) (.str s) []
  | box {n : Nat} {a : Addr} : g.bs[n]? = some a → Rep (.box n) (.ref a) []
  | fn (n : Nat) : Rep (.fn n) (.ref (tb.fa n)) []
  | cl (n : Nat) : Rep (.cl n) (.ref (tb.ca n)) []
  | tup {a : Addr} {xs : List D} {vs : List V} : g.Z a → Rd H a (.tup vs) → Reps xs vs [] → Rep (.tup xs) (.ref a) []
  | tupK {a : Addr} {xs : List D} {vs : List V} : KT K a vs → Reps xs vs [] → Rep (.tup xs) (.ref a) []
  | lstK {a : Addr} {xs : List D} {vs : List V} : KL K a vs ∨ (g.Z a ∧ Rd H a (.lst vs)) → Reps xs vs [] → Rep (.obj false .rol xs) (.ref a) []
  | frz {a : Addr} {t : Tg} {xs : List D} {vs : List V} {o : HO} : g.Z a → H a = some o → HoOf tb t vs o → Reps xs vs [] → Rep (.obj false t xs) (.ref a) []
  | own {a : Addr} {t : Tg} {xs : List D} {vs : List V} {o : HO} {f : List Addr} : H a = some o → HoOf tb t vs o → Reps xs vs f → Rep (.obj true t xs) (.ref a) (a :: f)
inductive Reps : List D → List V → List Addr → Prop
  | nil : Reps [] [] []
  | cons {x : D} {v : V} {xs : List D} {vs : List V} {f f' : List Addr} : Rep x v f → Reps xs vs f' → Reps (x :: xs) (v :: vs) (f ++ f')
end
end

/-- what is frozen stays, the boxes stay -/
structure Le (g : Gh) (H : Hp) (g' : Gh) (H' : Hp) : Prop where
  bs : ∃ t, g'.bs = g.bs ++ t
  z : ∀ a, g.Z a → g'.Z a
  st : ∀ a o, g.Z a → H a = some o → H' a = some o
theorem Le.refl {g : Gh} {H : Hp} : Le g H g H := ⟨⟨[], by simp⟩, fun _ h => h, fun _ _ _ h => h⟩
theorem Le.trans {g g1 g2 : Gh} {H H1 H2 : Hp} (a : Le g H g1 H1) (b : Le g1 H1 g2 H2) : Le g H g2 H2 := by
  obtain ⟨t, e⟩ := a.bs
  obtain ⟨u, e'⟩ := b.bs
  exact ⟨⟨t ++ u, by rw [e', e, List.append_assoc]⟩, fun x h => b.z x (a.z x h), fun x o h q => b.st x o (a.z x h) (a.st x o h q)⟩
theorem Le.box {g g' : Gh} {H H' : Hp} (l : Le g H g' H') {n : Nat} {a : Addr} (h : g.bs[n]? = some a) : g'.bs[n]? = some a := by
  obtain ⟨t, e⟩ := l.bs
  rw [e, List.getElem?_append_left (List.getElem?_eq_some_iff.mp h).1]
  exact h
theorem Le.rd {g g' : Gh} {H H' : Hp} (l : Le g H g' H') {a : Addr} {o : HO} (z : g.Z a) (h : Rd H a o) : Rd H' a o := by
  rcases h with h | ⟨u, h⟩
  · exact .inl (l.st a _ z h)
  · exact .inr ⟨u, l.st a _ z h⟩
abbrev Ext (H H' : Hp) : Prop := ∀ a o, H a = some o → H' a = some o

section
variable {K : PySem.W.Frag} {tb : Tb} {g g' : Gh} {H H' : Hp}
mutual
theorem Rep.stay (l : Le g H g' H') : ∀ {d : D} {v : V} {f : List Addr}, Rep K tb g H d v f → (∀ a ∈ f, ∀ o, H a = some o → H' a = some o) → Rep K tb g' H' d v f
  | _, _, _, .non, _ => .non
  | _, _, _, .bl b, _ => .bl b
  | _, _, _, .int i, _ => .int i
  | _, _, _, .str s, _ => .str s
  | _, _, _, .box e, _ => .box (l.box e)
  | _, _, _, .fn n, _ => .fn n
  | _, _, _, .cl n, _ => .cl n
  | _, _, _, .tup z r q, _ => .tup (l.z _ z) (l.rd z r) (Reps.stay l q (fun _ h => nomatch h))
  | _, _, _, .tupK k q, _ => .tupK k (Reps.stay l q (fun _ h => nomatch h))
  | _, _, _, .lstK k q, _ => .lstK (k.imp id fun ⟨z, r⟩ => ⟨l.z _ z, l.rd z r⟩) (Reps.stay l q (fun _ h => nomatch h))
  | _, _, _, .frz z r o q, _ => .frz (l.z _ z) (l.st _ _ z r) o (Reps.stay l q (fun _ h => nomatch h))
  | _, _, _, .own e o q, h => .own (h _ (List.mem_cons_self) _ e) o (Reps.stay l q (fun a m => h a (List.mem_cons_of_mem _ m)))
theorem Reps.stay (l : Le g H g' H') : ∀ {d : List D} {v : List V} {f : List Addr}, Reps K tb g H d v f → (∀ a ∈ f, ∀ o, H a = some o → H' a = some o) → Reps K tb g' H' d v f
  | _, _, _, .nil, _ => .nil
  | _, _, _, .cons r q, h => .cons (Rep.stay l r fun a m => h a (List.mem_append_left _ m)) (Reps.stay l q fun a m => h a (List.mem_append_right _ m))
end
-- own addresses are tracked
mutual
theorem Rep.dom : ∀ {d : D} {v : V} {f : List Addr}, Rep K tb g H d v f → ∀ a ∈ f, ∃ o, H a = some o
  | _, _, _, .non, _, h => nomatch h
  | _, _, _, .bl b, _, h => nomatch h
  | _, _, _, .int i, _, h => nomatch h
  | _, _, _, .str s, _, h => nomatch h
  | _, _, _, .box e, _, h => nomatch h
  | _, _, _, .fn n, _, h => nomatch h
  | _, _, _, .cl n, _, h => nomatch h
  | _, _, _, .tup z r q, _, h => nomatch h
  | _, _, _, .tupK k q, _, h => nomatch h
  | _, _, _, .lstK k q, _, h => nomatch h
  | _, _, _, .frz z r o q, _, h => nomatch h
  | _, _, _, .own e o q, a, h => by
    rcases List.mem_cons.mp h with z | z
    · subst z; exact ⟨_, e⟩
    · exact Reps.dom q a z
theorem Reps.dom : ∀ {d : List D} {v : List V} {f : List Addr}, Reps K tb g H d v f → ∀ a ∈ f, ∃ o, H a = some o
  | _, _, _, .nil, _, h => nomatch h
  | _, _, _, .cons r q, a, h => by
    rcases List.mem_append.mp h with z | z
    · exact Rep.dom r a z
    · exact Reps.dom q a z
end
-- frozen: the own addresses become frozen ones
mutual
theorem Rep.frzz {Z' : Addr → Prop} (hz : ∀ a, g.Z a → Z' a) : ∀ {d : D} {v : V} {f : List Addr}, Rep K tb g H d v f → (∀ a ∈ f, Z' a) → Rep K tb ⟨g.bs, Z'⟩ H d.frz v []
  | _, _, _, .non, _ => .non
  | _, _, _, .bl b, _ => .bl b
  | _, _, _, .int i, _ => .int i
  | _, _, _, .str s, _ => .str s
  | _, _, _, .box e, _ => .box e
  | _, _, _, .fn n, _ => .fn n
  | _, _, _, .cl n, _ => .cl n
  | _, _, _, .tup z r q, _ => .tup (hz _ z) r (Reps.stay ⟨⟨[], by simp⟩, hz, fun _ _ _ h => h⟩ q (fun _ h => nomatch h))
  | _, _, _, .tupK k q, _ => .tupK k (Reps.stay ⟨⟨[], by simp⟩, hz, fun _ _ _ h => h⟩ q (fun _ h => nomatch h))
  | _, _, _, .lstK k q, _ => .lstK (k.imp id fun ⟨z, r⟩ => ⟨hz _ z, r⟩) (Reps.frzz hz q (fun _ h => nomatch h))
  | _, _, _, .frz z r o q, _ => .frz (hz _ z) r o (Reps.frzz hz q (fun _ h => nomatch h))
  | _, _, _, .own e o q, h => .frz (h _ List.mem_cons_self) e o (Reps.frzz hz q (fun a m => h a (List.mem_cons_of_mem _ m)))
theorem Reps.frzz {Z' : Addr → Prop} (hz : ∀ a, g.Z a → Z' a) : ∀ {d : List D} {v : List V} {f : List Addr}, Reps K tb g H d v f → (∀ a ∈ f, Z' a) → Reps K tb ⟨g.bs, Z'⟩ H (frzL d) v []
  | _, _, _, .nil, _ => .nil
  | _, _, _, .cons (x := x) (xs := xs) r q, h => by
    have h1 := Rep.frzz hz r fun a m => h a (List.mem_append_left _ m)
    have h2 := Reps.frzz hz q fun a m => h a (List.mem_append_right _ m)
    exact Reps.cons (f := []) (f' := []) h1 h2
end
-- frozen data owns nothing
mutual
theorem Rep.isF : ∀ {d : D} {v : V} {f : List Addr}, Rep K tb g H d v f → d.isF = true → f = []
  | _, _, _, .non, _ => rfl
  | _, _, _, .bl b, _ => rfl
  | _, _, _, .int i, _ => rfl
  | _, _, _, .str s, _ => rfl
  | _, _, _, .box e, _ => rfl
  | _, _, _, .fn n, _ => rfl
  | _, _, _, .cl n, _ => rfl
  | _, _, _, .tup z r q, _ => rfl
  | _, _, _, .tupK k q, _ => rfl
  | _, _, _, .lstK k q, _ => rfl
  | _, _, _, .frz z r o q, _ => rfl
  | _, _, _, .own e o q, h => by simp [D.isF] at h
theorem Reps.isF : ∀ {d : List D} {v : List V} {f : List Addr}, Reps K tb g H d v f → isFL d = true → f = []
  | _, _, _, .nil, _ => rfl
  | _, _, _, .cons r q, h => by
    simp only [isFL, Bool.and_eq_true] at h
    rw [Rep.isF r h.1, Reps.isF q h.2]
    rfl
end
-- what owns nothing is frozen
mutual
theorem Rep.frz_id : ∀ {d : D} {v : V} {f : List Addr}, Rep K tb g H d v f → f = [] → d.frz = d
  | _, _, _, .non, _ => rfl
  | _, _, _, .bl b, _ => rfl
  | _, _, _, .int i, _ => rfl
  | _, _, _, .str s, _ => rfl
  | _, _, _, .box e, _ => rfl
  | _, _, _, .fn n, _ => rfl
  | _, _, _, .cl n, _ => rfl
  | _, _, _, .tup z r q, _ => rfl
  | _, _, _, .tupK k q, _ => rfl
  | _, _, _, .lstK k q, _ => by simp only [D.frz]; rw [Reps.frz_id q rfl]
  | _, _, _, .frz z r o q, _ => by simp only [D.frz]; rw [Reps.frz_id q rfl]
  | _, _, _, .own e o q, h => by simp at h
theorem Reps.frz_id : ∀ {d : List D} {v : List V} {f : List Addr}, Reps K tb g H d v f → f = [] → frzL d = d
  | _, _, _, .nil, _ => rfl
  | _, _, _, .cons r q, h => by
    simp only [List.append_eq_nil_iff] at h
    simp only [frzL]
    rw [Rep.frz_id r h.1, Reps.frz_id q h.2]
end
theorem zip_inj {α β : Type} : ∀ {ks : List α} {vs ws : List β}, ks.length = vs.length → ks.length = ws.length → ks.zip vs = ks.zip ws → vs = ws
  | [], [], [], _, _, _ => rfl
  | k :: ks, v :: vs, w :: ws, h1, h2, h => by
    simp only [List.zip_cons_cons, List.cons.injEq, Prod.mk.injEq] at h
    rw [h.1.2, zip_inj (by simpa using h1) (by simpa using h2) h.2]
  | [], _ :: _, _, h, _, _ => by simp at h
  | [], [], _ :: _, _, h, _ => by simp at h
  | _ :: _, [], _, h, _, _ => by simp at h
  | _ :: _, _ :: _, [], _, h, _ => by simp at h
theorem HoOf.inj {tb : Tb} {t : Tg} {vs ws : List V} {o : HO} (h : HoOf tb t vs o) (h' : HoOf tb t ws o) : vs = ws := by
  cases t with
  | lst =>
    have h : o = _ := h
    have h' : o = _ := h'
    rw [h] at h'; cases h'; rfl
  | rol => exact h.elim
  | dic ks =>
    obtain ⟨l, h⟩ := h
    obtain ⟨l', h'⟩ := h'
    rw [h] at h'
    injection h' with h'
    exact zip_inj l l' h'
  | dit ks =>
    obtain ⟨l, h⟩ := h
    obtain ⟨l', h'⟩ := h'
    rw [h] at h'
    injection h' with h'
    exact zip_inj l l' h'
  | ins c fs =>
    obtain ⟨l, d, h⟩ := h
    obtain ⟨l', d', h'⟩ := h'
    rw [h] at h'
    injection h' with _ _ h'
    exact zip_inj l l' h'
-- the own addresses are determined
mutual
theorem Rep.fp_detD : ∀ (d : D) (v : V) (f f' : List Addr), Rep K tb g H d v f → Rep K tb g' H' d v f' → (∀ a ∈ f, ∀ o, H a = some o → H' a = some o) → f' = f
  | .non, _, _, _, h, h', _ => by cases h; cases h'; rfl
  | .bl _, _, _, _, h, h', _ => by cases h; cases h'; rfl
  | .int _, _, _, _, h, h', _ => by cases h; cases h'; rfl
  | .str _, _, _, _, h, h', _ => by cases h; cases h'; rfl
  | .box _, _, _, _, h, h', _ => by cases h; cases h'; rfl
  | .fn _, _, _, _, h, h', _ => by cases h; cases h'; rfl
  | .cl _, _, _, _, h, h', _ => by cases h; cases h'; rfl
  | .tup _, _, _, _, h, h', _ => by cases h <;> cases h' <;> rfl
  | .obj false _ _, _, _, _, h, h', _ => by cases h <;> cases h' <;> rfl
  | .obj true t xs, _, _, _, h, h', k => by
    cases h with
    | own e o q =>
      cases h' with
      | own e' o' q' =>
        have e2 := k _ List.mem_cons_self _ e
        rw [e'] at e2
        cases e2
        have ev := o.inj o'
        subst ev
        rw [Reps.fp_detD xs _ _ _ q q' fun a m => k a (List.mem_cons_of_mem _ m)]
theorem Reps.fp_detD : ∀ (d : List D) (v : List V) (f f' : List Addr), Reps K tb g H d v f → Reps K tb g' H' d v f' → (∀ a ∈ f, ∀ o, H a = some o → H' a = some o) → f' = f
  | [], _, _, _, h, h', _ => by cases h; cases h'; rfl
  | x :: xs, _, _, _, h, h', k => by
    cases h with
    | cons r q =>
      cases h' with
      | cons r' q' =>
        rw [Rep.fp_detD x _ _ _ r r' fun a m => k a (List.mem_append_left _ m), Reps.fp_detD xs _ _ _ q q' fun a m => k a (List.mem_append_right _ m)]
end
theorem Rep.fp_det {d : D} {v : V} {f f' : List Addr} (h : Rep K tb g H d v f) (h' : Rep K tb g' H' d v f') (k : ∀ a ∈ f, ∀ o, H a = some o → H' a = some o) : f' = f := Rep.fp_detD d v f f' h h' k
theorem Reps.fp_det {d : List D} {v : List V} {f f' : List Addr} (h : Reps K tb g H d v f) (h' : Reps K tb g' H' d v f') (k : ∀ a ∈ f, ∀ o, H a = some o → H' a = some o) : f' = f := Reps.fp_detD d v f f' h h' k
theorem Reps.length {d : List D} {v : List V} {f : List Addr} : Reps K tb g H d v f → d.length = v.length := by
  intro h
  induction d generalizing v f with
  | nil => cases h; rfl
  | cons x xs ih =>
    cases h with
    | cons r q => simp [ih q]
theorem Reps.get {d : List D} {v : List V} {f : List Addr} (h : Reps K tb g H d v f) {i : Nat} {x : D} (hx : d[i]? = some x) : ∃ u f', v[i]? = some u ∧ Rep K tb g H x u f' ∧ ∀ a ∈ f', a ∈ f := by
  induction d generalizing v f i with
  | nil => simp at hx
  | cons y ys ih =>
    cases h with
    | cons r q =>
      cases i with
      | zero =>
        simp at hx
        subst hx
        exact ⟨_, _, rfl, r, fun a m => List.mem_append_left _ m⟩
      | succ i =>
        simp at hx
        obtain ⟨u, f', h1, h2, h3⟩ := ih q hx
        exact ⟨u, f', by simpa using h1, h2, fun a m => List.mem_append_right _ (h3 a m)⟩
theorem Reps.append {d d' : List D} {v v' : List V} {f f' : List Addr} (h : Reps K tb g H d v f) (h' : Reps K tb g H d' v' f') : Reps K tb g H (d ++ d') (v ++ v') (f ++ f') := by
  induction d generalizing v f with
  | nil => cases h; exact h'
  | cons x xs ih =>
    cases h with
    | cons r q =>
      rw [List.append_assoc]
      exact .cons r (ih q)
end
end Tm

set_option Elab.async false
set_option linter.all false
set_option maxRecDepth 100000
namespace Tm
open PySem L2

inductive R (α : Type) where
  | ok (a : α) | ex (c : Nat) | no
def R.bind {α β : Type} : R α → (α → R β) → R β
  | .ok a, k => k a
  | .ex c, _ => .ex c
  | .no, _ => .no
def R.map {α β : Type} (f : α → β) : R α → R β
  | .ok a => .ok (f a)
  | .ex c => .ex c
  | .no => .no
def R.of {α : Type} : Option α → R α
  | some a => .ok a
  | none => .no
@[simp] theorem R.bind_ok {α β : Type} (a : α) (k : α → R β) : (R.ok a).bind k = k a := rfl
@[simp] theorem R.bind_ex {α β : Type} (c : Nat) (k : α → R β) : (R.ex c : R α).bind k = .ex c := rfl
@[simp] theorem R.bind_no {α β : Type} (k : α → R β) : (R.no : R α).bind k = .no := rfl
@[simp] theorem R.map_ok {α β : Type} (f : α → β) (a : α) : (R.ok a).map f = .ok (f a) := rfl
@[simp] theorem R.map_ex {α β : Type} (f : α → β) (c : Nat) : (R.ex c : R α).map f = .ex c := rfl
@[simp] theorem R.map_no {α β : Type} (f : α → β) : (R.no : R α).map f = .no := rfl
@[simp] theorem R.of_some {α : Type} (a : α) : R.of (some a) = .ok a := rfl
@[simp] theorem R.of_none {α : Type} : R.of (none : Option α) = .no := rfl

/-- a state of the mirror: the names' values by slot, the boxes -/
structure S where
  sl : List (Option D)
  bx : List D
def S.push (ρ : S) (d : D) : S := ⟨some d :: ρ.sl, ρ.bx⟩
def S.get (ρ : S) (i : Nat) : R D := match ρ.sl[i]? with
  | some (some d) => .ok d
  | _ => .no
def S.set (ρ : S) (i : Nat) (d : D) : S := ⟨ρ.sl.set i (some d), ρ.bx⟩
def S.wipe (ρ : S) : List Nat → S
  | [] => ρ
  | v :: vs => ⟨((ρ.wipe vs).sl).set v none, ρ.bx⟩

inductive SlR (K : PySem.W.Frag) (tb : Tb) (g : Gh) (H : Hp) : List (Option D) → St → List Addr → Prop
  | nil : SlR K tb g H [] [] []
  | no {sl : List (Option D)} {v : Option V} {σ : St} {f : List Addr} : SlR K tb g H sl σ f → SlR K tb g H (none :: sl) (v :: σ) f
  | so {d : D} {sl : List (Option D)} {v : V} {σ : St} {f f' : List Addr} : Rep K tb g H d v f → SlR K tb g H sl σ f' → SlR K tb g H (some d :: sl) (some v :: σ) (f ++ f')

/-- a def's run: its entry's heap; what it may own or change; what was frozen; may it change the boxes -/
structure Act where
  H0 : Hp
  G : Addr → Prop
  Z0 : Addr → Prop
  mt : Bool
  b0 : List Addr

structure Rel (K : PySem.W.Frag) (tb : Tb) (T : Act) (g : Gh) (ρ : S) (σ : St) (H : Hp) : Prop where
  ex : ∃ f1 f2, SlR K tb g H ρ.sl σ f1 ∧ Reps K tb g H ρ.bx (g.bs.map V.ref) f2 ∧ (f1 ++ f2).Nodup ∧ (∀ a ∈ f1, T.G a) ∧ (T.mt = true → ∀ a ∈ f2, T.G a) ∧ ∀ a ∈ f1 ++ f2, ¬ g.Z a
  zok : ∀ a, g.Z a → ∃ o, H a = some o
  zg : ∀ a, g.Z a → T.Z0 a ∨ T.G a
  fr : ∀ a, ¬ T.G a → H a = T.H0 a
  gn : ∀ a, T.H0 a = none → T.G a
  pb : T.mt = false → g.bs = T.b0

section
variable {K : PySem.W.Frag} {tb : Tb} {T : Act} {g g' g1 g2 : Gh} {ρ ρ' : S} {σ σ' : St} {H H' H1 H2 : Hp}
theorem Rel.new (r : Rel K tb T g ρ σ H) {a : Addr} (h : H a = none) : T.G a := by
  refine Classical.byContradiction fun n => n (r.gn a ?_)
  rw [← r.fr a n]; exact h
theorem Rel.newZ (r : Rel K tb T g ρ σ H) {a : Addr} (h : H a = none) : ¬ g.Z a := fun z => by
  obtain ⟨o, e⟩ := r.zok a z
  rw [h] at e; cases e
theorem SlR.stay (l : Le g H g' H') {sl : List (Option D)} {f : List Addr} (h : SlR K tb g H sl σ f) (k : ∀ a ∈ f, ∀ o, H a = some o → H' a = some o) : SlR K tb g' H' sl σ f := by
  induction h with
  | nil => exact .nil
  | no _ ih => exact .no (ih k)
  | so r q ih => exact .so (r.stay l fun a m => k a (List.mem_append_left _ m)) (ih fun a m => k a (List.mem_append_right _ m))
theorem SlR.dom {sl : List (Option D)} {f : List Addr} (h : SlR K tb g H sl σ f) : ∀ a ∈ f, ∃ o, H a = some o := by
  induction h with
  | nil => intro a m; cases m
  | no _ ih => exact ih
  | so r q ih =>
    intro a m
    rcases List.mem_append.mp m with m | m
    · exact r.dom a m
    · exact ih a m
theorem SlR.length {sl : List (Option D)} {f : List Addr} (h : SlR K tb g H sl σ f) : sl.length = σ.length := by
  induction h with
  | nil => rfl
  | no _ ih => simp [ih]
  | so r q ih => simp [ih]
theorem SlR.get {sl : List (Option D)} {f : List Addr} (h : SlR K tb g H sl σ f) {i : Nat} {d : D} (e : sl[i]? = some (some d)) : ∃ v f', σ[i]? = some (some v) ∧ Rep K tb g H d v f' ∧ ∀ a ∈ f', a ∈ f := by
  induction h generalizing i with
  | nil => simp at e
  | no _ ih =>
    cases i with
    | zero => simp at e
    | succ i => exact ih (by simpa using e)
  | so r q ih =>
    cases i with
    | zero =>
      simp at e
      subst e
      exact ⟨_, _, rfl, r, fun a m => List.mem_append_left _ m⟩
    | succ i =>
      obtain ⟨v, f', h1, h2, h3⟩ := ih (by simpa using e)
      exact ⟨v, f', by simpa using h1, h2, fun a m => List.mem_append_right _ (h3 a m)⟩
theorem SlR.fp_det {sl : List (Option D)} {f f' : List Addr} (h : SlR K tb g H sl σ f) (h' : SlR K tb g' H' sl σ f') (k : ∀ a ∈ f, ∀ o, H a = some o → H' a = some o) : f' = f := by
  induction h generalizing f' with
  | nil => cases h'; rfl
  | no _ ih => cases h' with | no q => exact ih q k
  | so r q ih =>
    cases h' with
    | so r' q' => rw [ih q' fun a m => k a (List.mem_append_right _ m), r.fp_det r' fun a m => k a (List.mem_append_left _ m)]
/-- the same state over a heap that has grown, more frozen -/
theorem Rel.grow (r : Rel K tb T g ρ σ H) (l : Le g H g' H') (e : Ext H H') (eb : g'.bs = g.bs) (zok : ∀ a, g'.Z a → ∃ o, H' a = some o) (zn : ∀ a, g'.Z a → g.Z a ∨ H a = none)
    (fr : ∀ a, ¬ T.G a → H' a = H a) : Rel K tb T g' ρ σ H' := by
  obtain ⟨f1, f2, s1, s2, nd, g1, gm, nz⟩ := r.ex
  refine ⟨⟨f1, f2, s1.stay l fun a _ => e a, ?_, nd, g1, gm, fun a m z => ?_⟩, zok, fun a z => ?_, fun a n => (fr a n).trans (r.fr a n), r.gn, fun m => eb.trans (r.pb m)⟩
  · rw [eb]; exact s2.stay l fun a _ => e a
  · rcases zn a z with z | z
    · exact nz a m z
    · have : ∃ o, H a = some o := by
        rcases List.mem_append.mp m with m | m
        · exact s1.dom a m
        · exact s2.dom a m
      obtain ⟨o, q⟩ := this
      rw [z] at q; cases q
  · rcases zn a z with z | z
    · exact r.zg a z
    · exact .inr (r.new z)

/-- evaluation leaves the state, the heap grows -/
structure Step (K : PySem.W.Frag) (tb : Tb) (T : Act) (ρ : S) (σ : St) (g : Gh) (H : Hp) (g' : Gh) (H' : Hp) : Prop where
  rel : Rel K tb T g' ρ σ H'
  le : Le g H g' H'
  ext : Ext H H'
  bs : g'.bs = g.bs
  zn : ∀ a, g'.Z a → g.Z a ∨ H a = none
theorem Step.refl (r : Rel K tb T g ρ σ H) : Step K tb T ρ σ g H g H := ⟨r, .refl, fun _ _ h => h, rfl, fun _ z => .inl z⟩
theorem ext_none {H H' : Hp} (e : Ext H H') {a : Addr} (h : H' a = none) : H a = none := by
  cases q : H a with
  | none => rfl
  | some o => rw [e a o q] at h; cases h
theorem Step.trans (a : Step K tb T ρ σ g H g1 H1) (b : Step K tb T ρ σ g1 H1 g2 H2) : Step K tb T ρ σ g H g2 H2 :=
  ⟨b.rel, a.le.trans b.le, fun x o h => b.ext x o (a.ext x o h), b.bs.trans a.bs, fun x z => by
    rcases b.zn x z with z | z
    · exact a.zn x z
    · exact .inr (ext_none a.ext z)⟩
/-- the step, for another state that stood ahead of it -/
theorem Step.other {ρ1 : S} {σ1 : St} (s : Step K tb T ρ σ g H g' H') (r : Rel K tb T g ρ1 σ1 H) (r0 : Rel K tb T g ρ σ H) : Step K tb T ρ1 σ1 g H g' H' :=
  ⟨r.grow s.le s.ext s.bs s.rel.zok s.zn fun a n => (s.rel.fr a n).trans (r0.fr a n).symm, s.le, s.ext, s.bs, s.zn⟩
theorem Step.rep (s : Step K tb T ρ σ g H g' H') {d : D} {v : V} {f : List Addr} (r : Rep K tb g H d v f) : Rep K tb g' H' d v f := r.stay s.le fun a _ => s.ext a
theorem Step.reps (s : Step K tb T ρ σ g H g' H') {d : List D} {v : List V} {f : List Addr} (r : Reps K tb g H d v f) : Reps K tb g' H' d v f := r.stay s.le fun a _ => s.ext a
end

/-- a new value: pushed, its own addresses were free in H -/
structure Frs (K : PySem.W.Frag) (tb : Tb) (T : Act) (ρ : S) (σ : St) (H : Hp) (g' : Gh) (H' : Hp) (d : D) (v : V) : Prop where
  rel : Rel K tb T g' (ρ.push d) (some v :: σ) H'
  nw : ∃ fp, Rep K tb g' H' d v fp ∧ ∀ a ∈ fp, H a = none
theorem Frs.back {K : PySem.W.Frag} {tb : Tb} {T : Act} {ρ : S} {σ : St} {H0 H : Hp} {g' : Gh} {H' : Hp} {d : D} {v : V} (e : Ext H0 H) (h : Frs K tb T ρ σ H g' H' d v) : Frs K tb T ρ σ H0 g' H' d v :=
  ⟨h.rel, let ⟨fp, r, n⟩ := h.nw; ⟨fp, r, fun a m => ext_none e (n a m)⟩⟩
-- what exceptions are: their classes by number
section
variable (K : PySem.W.Frag) (tb : Tb) (W : WX) (T : Act)
def Run {α : Type} (ρ : S) (σ : St) (g : Gh) (H : Hp) (r : R α) (P : α → Gh → Hp → Prop) : Prop := match r with
  | .ok a => P a g H
  | .ex c => ∀ g' H', Step K tb T ρ σ g H g' H' → W (.ref (tb.ca c)) none σ H'
  | .no => False
abbrev EX := S → R D
/-- readings: the value stands somewhere; it is frozen; it is new (pushed) -/
def tPk (f : EX) : TE := fun σ H Q => ∃ g ρ, Rel K tb T g ρ σ H ∧ Run K tb W T ρ σ g H (f ρ) fun d g H => ∀ v g' H' fp, Step K tb T ρ σ g H g' H' → Rep K tb g' H' d v fp → Q v H'
def tVl (f : EX) : TE := fun σ H Q => ∃ g ρ, Rel K tb T g ρ σ H ∧ Run K tb W T ρ σ g H (f ρ) fun d g H => ∀ v g' H', Step K tb T ρ σ g H g' H' → Rep K tb g' H' d v [] → Q v H'
def tFr (f : EX) : TE := fun σ H Q => ∃ g ρ, Rel K tb T g ρ σ H ∧ Run K tb W T ρ σ g H (f ρ) fun d g H => ∀ v g' H', Step K tb T ρ σ g H g' H' → Frs K tb T ρ σ H g' H' d v → Q v H'
abbrev BX := S → R Bool
def tBx (f : BX) : TT := fun σ H Q => ∃ g ρ, Rel K tb T g ρ σ H ∧ Run K tb W T ρ σ g H (f ρ) fun b g H => ∀ g' H', Step K tb T ρ σ g H g' H' → Q b H'
abbrev AX := S → R (List D)
def tAx (f : AX) : TA := fun σ H Q => ∃ g ρ, Rel K tb T g ρ σ H ∧ Run K tb W T ρ σ g H (f ρ) fun ds g H => ∀ vs g' H', Step K tb T ρ σ g H g' H' → Reps K tb g' H' ds vs [] → Q vs H'
end

section
variable {K : PySem.W.Frag} {tb : Tb} {W : WX} {T : Act} {ρ : S} {σ : St} {g g' : Gh} {H H' : Hp}
theorem Run.imp {α : Type} {r : R α} {P P' : α → Gh → Hp → Prop} (h : Run K tb W T ρ σ g H r P) (i : ∀ a, r = .ok a → P a g H → P' a g H) : Run K tb W T ρ σ g H r P' := by
  cases r with
  | ok a => exact i a rfl h
  | ex c => exact h
  | no => exact h
theorem Run.bind {α β : Type} {r : R α} {k : α → R β} {P : β → Gh → Hp → Prop} (h : Run K tb W T ρ σ g H (r.bind k) P) : Run K tb W T ρ σ g H r fun a g H => Run K tb W T ρ σ g H (k a) P := by
  cases r with
  | ok a => exact h
  | ex c => exact h
  | no => exact h
theorem Run.map {α β : Type} {r : R α} {k : α → β} {P : β → Gh → Hp → Prop} (h : Run K tb W T ρ σ g H (r.map k) P) : Run K tb W T ρ σ g H r fun a g H => P (k a) g H := by
  cases r with
  | ok a => exact h
  | ex c => exact h
  | no => exact h
/-- stable under a step -/
def Stb (K : PySem.W.Frag) (tb : Tb) (T : Act) (ρ : S) (σ : St) {α : Type} (P : α → Gh → Hp → Prop) : Prop := ∀ a g H g' H', Step K tb T ρ σ g H g' H' → P a g H → P a g' H'
theorem Run.step {α : Type} {r : R α} {P : α → Gh → Hp → Prop} (st : Stb K tb T ρ σ P) (s : Step K tb T ρ σ g H g' H') (h : Run K tb W T ρ σ g H r P) : Run K tb W T ρ σ g' H' r P := by
  cases r with
  | ok a => exact st a _ _ _ _ s h
  | ex c => exact fun g2 H2 s2 => h g2 H2 (s.trans s2)
  | no => exact h
theorem Run.stb {α β : Type} {k : α → R β} {P : β → Gh → Hp → Prop} (st : Stb K tb T ρ σ P) : Stb K tb T ρ σ fun a g H => Run K tb W T ρ σ g H (k a) P := fun a _ _ _ _ s h => Run.step st s h
theorem stb_all {α : Type} {P : α → Gh → Hp → Prop} : Stb K tb T ρ σ fun a g H => ∀ g' H', Step K tb T ρ σ g H g' H' → P a g' H' := fun a _ _ _ _ s h g' H' s' => h g' H' (s.trans s')
theorem stb_v {α β : Type} {P : α → β → Gh → Hp → Prop} : Stb K tb T ρ σ fun a g H => ∀ v g' H', Step K tb T ρ σ g H g' H' → P a v g' H' := fun a _ _ _ _ s h v g' H' s' => h v g' H' (s.trans s')
theorem stb_fr {P : D → V → Gh → Hp → Prop} : Stb K tb T ρ σ fun a g H => ∀ v g' H', Step K tb T ρ σ g H g' H' → Frs K tb T ρ σ H g' H' a v → P a v g' H' := fun a _ _ _ _ s h v g' H' s' f => h v g' H' (s.trans s') (f.back s.ext)
theorem stb_vf {α β γ : Type} {P : α → β → γ → Gh → Hp → Prop} : Stb K tb T ρ σ fun a g H => ∀ v g' H' fp, Step K tb T ρ σ g H g' H' → P a v fp g' H' := fun a _ _ _ _ s h v g' H' fp s' => h v g' H' fp (s.trans s')
end

section
variable {X : Cx} {e : Expr} {t t' : TE}
theorem pe_imp (h : PE X e t) (i : ∀ σ H Q, t' σ H Q → t σ H Q) : PE X e t' := ⟨fun pins s σ H Q I q => h.run pins s σ H Q I (i _ _ _ q)⟩
theorem pt_imp {t t' : TT} (h : PT X e t) (i : ∀ σ H Q, t' σ H Q → t σ H Q) : PT X e t' := ⟨fun pins s σ H Q I q => h.run pins s σ H Q I (i _ _ _ q)⟩
theorem pw_imp {t t' : TT} (h : PW X e t) (i : ∀ σ H Q, t' σ H Q → t σ H Q) : PW X e t' := ⟨fun wh pins s σ H Q I q => h.run wh pins s σ H Q I (i _ _ _ q)⟩
theorem pa_imp {es : List Expr} {t t' : TA} (h : PA X es t) (i : ∀ σ H Q, t' σ H Q → t σ H Q) : PA X es t' := ⟨fun pos pins s σ H Q I q => h.run pos pins s σ H Q I (i _ _ _ q)⟩
theorem ps_imp {st : Stmt} {t t' : TS} (h : PS X st t) (i : ∀ D σ H, t' D σ H → t D σ H) : PS X st t' := ⟨fun pins s σ H D I q => h.run pins s σ H D I (i _ _ _ q)⟩
theorem pss_imp {st : List Stmt} {t t' : TS} (h : PSs X st t) (i : ∀ D σ H, t' D σ H → t D σ H) : PSs X st t' := ⟨fun pins s σ H D I q => h.run pins s σ H D I (i _ _ _ q)⟩
end

/-! ### freezing what was pushed -/
section
variable {K : PySem.W.Frag} {tb : Tb} {W : WX} {T : Act} {ρ : S} {σ : St} {g g' : Gh} {H H' : Hp} {d : D} {v : V}
def Gh.add (g : Gh) (f : List Addr) : Gh := ⟨g.bs, fun a => g.Z a ∨ a ∈ f⟩
theorem Rel.pushed (r : Rel K tb T g (ρ.push d) (some v :: σ) H) : ∃ f, Rep K tb g H d v f ∧ f.Nodup ∧ (∀ a ∈ f, T.G a ∧ ¬ g.Z a) ∧ Rel K tb T g ρ σ H ∧ Rel K tb T (g.add f) ρ σ H ∧ Le g H (g.add f) H := by
  obtain ⟨f1, f2, s1, s2, nd, g1, gm, nz⟩ := id r.ex
  obtain ⟨f, f', rfl, rp, q⟩ : ∃ f f', f1 = f ++ f' ∧ Rep K tb g H d v f ∧ SlR K tb g H ρ.sl σ f' := by
    generalize hs : (ρ.push d).sl = sl at s1
    generalize hv : (some v :: σ) = σ1 at s1
    cases s1 with
    | nil => cases hv
    | no _ => cases hs
    | so r' q' => cases hs; cases hv; exact ⟨_, _, rfl, r', q'⟩
  have nd' : (f ++ (f' ++ f2)).Nodup := by rw [List.append_assoc] at nd; exact nd
  rw [List.nodup_append] at nd'
  obtain ⟨n1, n2, n3⟩ := nd'
  have le : Le g H (g.add f) H := ⟨⟨[], by simp [Gh.add]⟩, fun a z => .inl z, fun _ _ _ h => h⟩
  have base : Rel K tb T g ρ σ H := ⟨⟨f', f2, q, s2, n2, fun a m => g1 a (List.mem_append_right _ m), gm, fun a m => nz a (by rw [List.append_assoc]; exact List.mem_append_right _ m)⟩, r.zok, r.zg, r.fr, r.gn, r.pb⟩
  refine ⟨f, rp, n1, fun a m => ⟨g1 a (List.mem_append_left _ m), nz a (by rw [List.append_assoc]; exact List.mem_append_left _ m)⟩, base, ?_, le⟩
  refine ⟨⟨f', f2, q.stay le fun a _ o h => h, s2.stay le fun a _ o h => h, n2, fun a m => g1 a (List.mem_append_right _ m), gm, fun a m z => ?_⟩, fun a z => ?_, fun a z => ?_, r.fr, r.gn, r.pb⟩
  · rcases z with z | z
    · exact nz a (by rw [List.append_assoc]; exact List.mem_append_right _ m) z
    · exact n3 a z a m rfl
  · rcases z with z | z
    · exact r.zok a z
    · exact rp.dom a z
  · rcases z with z | z
    · exact r.zg a z
    · exact .inr (g1 a (List.mem_append_left _ z))
theorem Rel.pop (r : Rel K tb T g (ρ.push d) (some v :: σ) H) : Rel K tb T g ρ σ H := by
  obtain ⟨f, _, _, _, h, _⟩ := r.pushed
  exact h
/-- push what owns nothing -/
theorem Rel.pushF (r : Rel K tb T g ρ σ H) (h : Rep K tb g H d v []) : Rel K tb T g (ρ.push d) (some v :: σ) H := by
  obtain ⟨f1, f2, s1, s2, nd, g1, gm, nz⟩ := r.ex
  exact ⟨⟨f1, f2, .so (f := []) h s1, s2, nd, g1, gm, nz⟩, r.zok, r.zg, r.fr, r.gn, r.pb⟩
/-- push what is new -/
theorem Rel.pushN {f : List Addr} (r : Rel K tb T g ρ σ H) (s : Step K tb T ρ σ g H g' H') (h : Rep K tb g' H' d v f) (nd : f.Nodup) (hn : ∀ a ∈ f, H a = none) (hz : ∀ a ∈ f, ¬ g'.Z a) : Rel K tb T g' (ρ.push d) (some v :: σ) H' := by
  obtain ⟨f1, f2, s1, s2, nd1, g1, gm, nz⟩ := r.ex
  have s2' : Reps K tb g' H' ρ.bx (g'.bs.map V.ref) f2 := by rw [s.bs]; exact s2.stay s.le fun a _ => s.ext a
  have s1' := s1.stay s.le fun a _ => s.ext a
  have dj : ∀ a ∈ f1 ++ f2, ∃ o, H a = some o := fun a m => by
    rcases List.mem_append.mp m with m | m
    · exact s1.dom a m
    · exact s2.dom a m
  have rel := s.rel
  obtain ⟨f1', f2', t1, t2, _, _, _, nz'⟩ := rel.ex
  have e1 : f1' = f1 := s1'.fp_det t1 fun _ _ _ h => h
  have e2 : f2' = f2 := s2'.fp_det t2 fun _ _ _ h => h
  subst e1 e2
  refine ⟨⟨f ++ f1', f2', .so h s1', s2', ?_, fun a m => ?_, gm, fun a m => ?_⟩, rel.zok, rel.zg, rel.fr, rel.gn, rel.pb⟩
  · rw [List.append_assoc, List.nodup_append]
    refine ⟨nd, nd1, fun a m b m' e => ?_⟩
    subst e
    obtain ⟨o, q⟩ := dj a m'
    rw [hn a m] at q; cases q
  · rcases List.mem_append.mp m with m | m
    · exact r.new (hn a m)
    · exact g1 a m
  · rw [List.append_assoc] at m
    rcases List.mem_append.mp m with m | m
    · exact hz a m
    · exact nz' a m
end
end Tm

set_option Elab.async false
set_option linter.all false
set_option maxRecDepth 100000
namespace Tm
open PySem L2

/-! ### from one reading to another -/
section
variable {X : Cx} {e : Expr} {K : PySem.W.Frag} {tb : Tb} {W : WX} {T : Act} {f : EX}
theorem pk_of_vl (h : PE X e (tPk K tb W T f)) : PE X e (tVl K tb W T fun ρ => (f ρ).bind fun d => if d.isF then .ok d else .no) := pe_imp h fun σ H Q ⟨g, ρ, r, h⟩ => ⟨g, ρ, r, by
  have h := Run.bind h
  refine h.imp fun d e h v g' H' fp s rp => ?_
  by_cases c : d.isF = true
  · rw [if_pos c] at h
    rw [rp.isF c] at rp
    exact h v g' H' s rp
  · rw [if_neg c] at h; exact h.elim⟩
theorem vl_pk (h : PE X e (tPk K tb W T f)) : PE X e (tVl K tb W T f) → PE X e (tPk K tb W T f) := fun _ => h
theorem toPk (h : PE X e (tVl K tb W T f)) : PE X e (tPk K tb W T f) := pe_imp h fun σ H Q ⟨g, ρ, r, h⟩ => ⟨g, ρ, r, h.imp fun d e h v g' H' s rp => h v g' H' [] s rp⟩
theorem toFr (h : PE X e (tVl K tb W T f)) : PE X e (tFr K tb W T f) := pe_imp h fun σ H Q ⟨g, ρ, r, h⟩ => ⟨g, ρ, r, h.imp fun d e h v g' H' s rp => h v g' H' s ⟨s.rel.pushF rp, [], rp, fun _ m => nomatch m⟩⟩
theorem frPk (h : PE X e (tFr K tb W T f)) : PE X e (tPk K tb W T f) := pe_imp h fun σ H Q ⟨g, ρ, r, h⟩ => ⟨g, ρ, r, h.imp fun d e h v g' H' s rp => by
  obtain ⟨fp, rp, _⟩ := rp.rel.pushed
  exact h v g' H' fp s rp⟩
theorem frVl (h : PE X e (tFr K tb W T f)) : PE X e (tVl K tb W T fun ρ => (f ρ).map D.frz) := pe_imp h fun σ H Q ⟨g, ρ, r, h⟩ => ⟨g, ρ, r, by
  have h := Run.map h
  refine h.imp fun d e h v g' H' s rp => ?_
  obtain ⟨fp, rp1, _, _, base, fz, le⟩ := rp.rel.pushed
  obtain ⟨fp', rp2, nw⟩ := rp.nw
  have e1 := rp1.fp_det rp2 fun _ _ _ h => h
  subst e1
  exact h v (g'.add fp') H' ⟨fz, s.le.trans le, s.ext, s.bs, fun a z => by
    rcases z with z | z
    · exact s.zn a z
    · exact .inr (nw a z)⟩ (rp1.frzz (Z' := (g'.add fp').Z) (fun a z => .inl z) fun a m => .inr m)⟩
end

/-! ### names, constants -/
section
variable {X : Cx} {tb : Tb} {W : WX} {T : Act}
theorem pVar (i : Nat) {x : Str} {pos : Pos} (hN : X.N[i]? = some x := by rfl) (hv : Vis X.env.scope x := by first | exact Or.inl rfl | exact Or.inr (Or.inl rfl) | exact Or.inr (Or.inr rfl)) (hd : (x == ("__debug__" : Str)) = false := by decide)
    (hcd : (x == ("__classdict__" : Str)) = false := by decide) : PE X (.Name x pos) (tPk X.K tb W T fun ρ => ρ.get i) := pe_imp (pe_var hN hv hd hcd) fun σ H Q ⟨g, ρ, r, h⟩ => by
  cases e : ρ.sl[i]? with
  | none => simp only [S.get, e] at h; exact h.elim
  | some o =>
    cases o with
    | none => simp only [S.get, e] at h; exact h.elim
    | some d =>
      simp only [S.get, e] at h
      obtain ⟨f1, f2, s1, _⟩ := id r.ex
      obtain ⟨v, f', e1, rp, _⟩ := s1.get e
      exact ⟨v, e1, h v g H f' (.refl r) rp⟩
theorem vC {e : Expr} {v : V} {d : D} (h : PE X e (tC v)) (hr : ∀ g H, Rep X.K tb g H d v []) : PE X e (tVl X.K tb W T fun _ => .ok d) := pe_imp h fun σ H Q ⟨g, ρ, r, h⟩ => h v g H (.refl r) (hr g H)
theorem vInt {i j pos} : PE X (.Constant (.int i) j pos) (tVl X.K tb W T fun _ => .ok (.int i)) := vC pe_int fun _ _ => .int i
theorem vBl {b j pos} : PE X (.Constant (.bool b) j pos) (tVl X.K tb W T fun _ => .ok (.bl b)) := vC pe_bl fun _ _ => .bl b
theorem vNon {j pos} : PE X (.Constant .none j pos) (tVl X.K tb W T fun _ => .ok .non) := vC pe_non fun _ _ => .non
theorem vStr {x j pos} : PE X (.Constant (.str x) j pos) (tVl X.K tb W T fun _ => .ok (.str x)) := vC pe_str fun _ _ => .str x
/-- a constant of the module -/
theorem vGlob {x : Str} {v : V} {u : Value} {d : D} {pos : Pos} (hm : X.mg x = some u) (rv : RelV v u) (hr : ∀ g H, Rep X.K tb g H d v []) (hg : Gl X x := by rfl) (hd : (x == ("__debug__" : Str)) = false := by decide) : PE X (.Name x pos) (tVl X.K tb W T fun _ => .ok d) := vC (pe_glob hg hm rv hd) hr
end

/-! ### two operands -/
def eB2 (op : D → D → Option D) (a b : EX) : EX := fun ρ => (a ρ).bind fun x => (b ρ).bind fun y => R.of (op x y)
/-- an operation on values against one on data: the value is frozen -/
def OpV (K : PySem.W.Frag) (tb : Tb) (T : Act) (r : R2) (op : D → D → Option D) : Prop := ∀ ρ σ g H x y vx vy fx fy d Q, Rel K tb T g ρ σ H → Rep K tb g H x vx fx → Rep K tb g H y vy fy → op x y = some d →
  (∀ v g' H', Step K tb T ρ σ g H g' H' → Rep K tb g' H' d v [] → Q v H') → r vx vy H Q
/-- the value is new -/
def OpF (K : PySem.W.Frag) (tb : Tb) (T : Act) (r : R2) (op : D → D → Option D) : Prop := ∀ ρ σ g H x y vx vy fx fy d Q, Rel K tb T g ρ σ H → Rep K tb g H x vx fx → Rep K tb g H y vy fy → op x y = some d →
  (∀ v g' H', Step K tb T ρ σ g H g' H' → Frs K tb T ρ σ H g' H' d v → Q v H') → r vx vy H Q
/-- the value lies within -/
def OpP (K : PySem.W.Frag) (tb : Tb) (T : Act) (r : R2) (op : D → D → Option D) : Prop := ∀ ρ σ g H x y vx vy fx fy d Q, Rel K tb T g ρ σ H → Rep K tb g H x vx fx → Rep K tb g H y vy fy → op x y = some d →
  (∀ v g' H' fp, Step K tb T ρ σ g H g' H' → Rep K tb g' H' d v fp → Q v H') → r vx vy H Q
section
variable {K : PySem.W.Frag} {tb : Tb} {W : WX} {T : Act} {r : R2} {op : D → D → Option D} {fa fb : EX}
theorem tOp_vl (hr : OpV K tb T r op) : ∀ σ H Q, tVl K tb W T (eB2 op fa fb) σ H Q → tOp r (tPk K tb W T fa) (tPk K tb W T fb) σ H Q := fun σ H Q ⟨g, ρ, rl, h⟩ => by
  refine ⟨g, ρ, rl, (Run.bind h).imp fun x _ h vx g1 H1 fx s1 rx => ⟨g1, ρ, s1.rel, ?_⟩⟩
  have h := Run.step (Run.stb (by exact stb_v)) s1 (Run.bind h)
  refine h.imp fun y _ h vy g2 H2 fy s2 ry => ?_
  cases e : op x y with
  | none => rw [e] at h; exact h.elim
  | some d =>
    rw [e] at h
    exact hr ρ σ g2 H2 x y vx vy fx fy d Q s2.rel (s2.rep rx) ry e fun v g' H' s rp => h v g' H' (s2.trans s) rp
theorem tOp_fr (hr : OpF K tb T r op) : ∀ σ H Q, tFr K tb W T (eB2 op fa fb) σ H Q → tOp r (tPk K tb W T fa) (tPk K tb W T fb) σ H Q := fun σ H Q ⟨g, ρ, rl, h⟩ => by
  refine ⟨g, ρ, rl, (Run.bind h).imp fun x _ h vx g1 H1 fx s1 rx => ⟨g1, ρ, s1.rel, ?_⟩⟩
  have h := Run.step (Run.stb (by exact stb_fr)) s1 (Run.bind h)
  refine h.imp fun y _ h vy g2 H2 fy s2 ry => ?_
  cases e : op x y with
  | none => rw [e] at h; exact h.elim
  | some d =>
    rw [e] at h
    exact hr ρ σ g2 H2 x y vx vy fx fy d Q s2.rel (s2.rep rx) ry e fun v g' H' s rp => h v g' H' (s2.trans s) (rp.back s2.ext)
theorem tOp_pk (hr : OpP K tb T r op) : ∀ σ H Q, tPk K tb W T (eB2 op fa fb) σ H Q → tOp r (tPk K tb W T fa) (tPk K tb W T fb) σ H Q := fun σ H Q ⟨g, ρ, rl, h⟩ => by
  refine ⟨g, ρ, rl, (Run.bind h).imp fun x _ h vx g1 H1 fx s1 rx => ⟨g1, ρ, s1.rel, ?_⟩⟩
  have h := Run.step (Run.stb (by exact stb_vf)) s1 (Run.bind h)
  refine h.imp fun y _ h vy g2 H2 fy s2 ry => ?_
  cases e : op x y with
  | none => rw [e] at h; exact h.elim
  | some d =>
    rw [e] at h
    exact hr ρ σ g2 H2 x y vx vy fx fy d Q s2.rel (s2.rep rx) ry e fun v g' H' fp s rp => h v g' H' fp (s2.trans s) rp
end

/-! ### ints -/
def inR (i : Int) : Bool := decide (-(2 ^ 64) < i ∧ i < 2 ^ 64)
def dAdd : D → D → Option D
  | .int i, .int j => some (.int (i + j))
  | .str s, .str t => if s.length + t.length ≤ sizeLine then some (.str (s ++ t)) else none
  | .obj _ .lst xs, .obj _ .lst ys => if isFL xs && isFL ys && decide (xs.length + ys.length ≤ sizeLine) then some (.obj true .lst (xs ++ ys)) else none
  | .tup xs, .tup ys => if xs.length + ys.length ≤ sizeLine then some (.tup (xs ++ ys)) else none
  | _, _ => none
def dSub : D → D → Option D
  | .int i, .int j => some (.int (i - j))
  | _, _ => none
def dMul : D → D → Option D
  | .int i, .int j => if inR i || inR j then some (.int (i * j)) else none
  | _, _ => none
def dDiv : D → D → Option D
  | .int i, .int j => if 0 < j ∧ j < 1073741824 then some (.int (i / j)) else none
  | _, _ => none
def dMod : D → D → Option D
  | .int i, .int j => if 0 < j then some (.int (i % j)) else none
  | _, _ => none
def dAnd : D → D → Option D
  | .int i, .int j => some (.int (Builtin.bitAnd i j))
  | _, _ => none
def addI : D → D → Option D
  | .int i, .int j => some (.int (i + j))
  | _, _ => none
def addS : D → D → Option D
  | .str s, .str t => if s.length + t.length ≤ sizeLine then some (.str (s ++ t)) else none
  | _, _ => none
def addL : D → D → Option D
  | .obj _ .lst xs, .obj _ .lst ys => if isFL xs && isFL ys && decide (xs.length + ys.length ≤ sizeLine) then some (.obj true .lst (xs ++ ys)) else none
  | _, _ => none
def addT : D → D → Option D
  | .tup xs, .tup ys => if xs.length + ys.length ≤ sizeLine then some (.tup (xs ++ ys)) else none
  | _, _ => none
def cmpI (p : Int → Int → Bool) : D → D → Option D
  | .int i, .int j => some (.bl (p i j))
  | _, _ => none
section
variable {X : Cx} {K : PySem.W.Frag} {tb : Tb} {W : WX} {T : Act} {a b : Expr} {fa fb : EX} {pos : Pos}
theorem opV_I0 {p : Int → Int → D} {q : Int → Int → V} (h : ∀ i j g H, Rep K tb g H (p i j) (q i j) []) : OpV K tb T (rI0 q) (fun x y => match x, y with | .int i, .int j => some (p i j) | _, _ => none) := by
  intro ρ σ g H x y vx vy fx fy d Q rl rx ry e k
  dsimp only at e
  split at e
  · cases e
    cases rx; cases ry
    exact ⟨_, _, rfl, rfl, k _ g H (.refl rl) (h _ _ _ _)⟩
  · cases e
theorem opV_I {C : Int → Int → Prop} [∀ i j, Decidable (C i j)] {p : Int → Int → D} {q : Int → Int → V} (h : ∀ i j g H, Rep K tb g H (p i j) (q i j) []) : OpV K tb T (rI C q) (fun x y => match x, y with | .int i, .int j => if C i j then some (p i j) else none | _, _ => none) := by
  intro ρ σ g H x y vx vy fx fy d Q rl rx ry e k
  dsimp only at e
  split at e
  · split at e
    · rename_i c
      cases e
      cases rx; cases ry
      exact ⟨_, _, rfl, rfl, c, k _ g H (.refl rl) (h _ _ _ _)⟩
    · cases e
  · cases e
theorem vAdd (ha : PE X a (tPk X.K tb W T fa)) (hb : PE X b (tPk X.K tb W T fb)) : PE X (.BinOp a .Add b pos) (tVl X.K tb W T (eB2 addI fa fb)) := pe_imp (pe_op op_add ha hb) (tOp_vl (opV_I0 fun i j _ _ => .int (i + j)))
theorem vSub (ha : PE X a (tPk X.K tb W T fa)) (hb : PE X b (tPk X.K tb W T fb)) : PE X (.BinOp a .Sub b pos) (tVl X.K tb W T (eB2 dSub fa fb)) := pe_imp (pe_op op_sub ha hb) (tOp_vl (opV_I0 fun i j _ _ => .int (i - j)))
theorem vAnd (ha : PE X a (tPk X.K tb W T fa)) (hb : PE X b (tPk X.K tb W T fb)) : PE X (.BinOp a .BitAnd b pos) (tVl X.K tb W T (eB2 dAnd fa fb)) := pe_imp (pe_op op_and ha hb) (tOp_vl (opV_I0 fun i j _ _ => .int (Builtin.bitAnd i j)))
theorem vMul (ha : PE X a (tPk X.K tb W T fa)) (hb : PE X b (tPk X.K tb W T fb)) : PE X (.BinOp a .Mult b pos) (tVl X.K tb W T (eB2 dMul fa fb)) := pe_imp (pe_op op_mul ha hb) (tOp_vl (by
  intro ρ σ g H x y vx vy fx fy d Q rl rx ry e k
  unfold dMul at e
  split at e
  · split at e
    · rename_i c
      cases e
      cases rx; cases ry
      refine ⟨_, _, rfl, rfl, ?_, k _ g H (.refl rl) (.int _)⟩
      simp only [inR, Bool.or_eq_true, decide_eq_true_eq] at c
      exact c
    · cases e
  · cases e))
theorem vDiv (ha : PE X a (tPk X.K tb W T fa)) (hb : PE X b (tPk X.K tb W T fb)) : PE X (.BinOp a .FloorDiv b pos) (tVl X.K tb W T (eB2 dDiv fa fb)) := pe_imp (pe_op op_fdiv ha hb) (tOp_vl (by
  intro ρ σ g H x y vx vy fx fy d Q rl rx ry e k
  unfold dDiv at e
  split at e
  · split at e
    · rename_i c
      cases e
      cases rx; cases ry
      exact ⟨_, _, rfl, rfl, c, k _ g H (.refl rl) (.int _)⟩
    · cases e
  · cases e))
theorem vMod (ha : PE X a (tPk X.K tb W T fa)) (hb : PE X b (tPk X.K tb W T fb)) : PE X (.BinOp a .Mod b pos) (tVl X.K tb W T (eB2 dMod fa fb)) := pe_imp (pe_op op_mod ha hb) (tOp_vl (by
  intro ρ σ g H x y vx vy fx fy d Q rl rx ry e k
  unfold dMod at e
  split at e
  · split at e
    · rename_i c
      cases e
      cases rx; cases ry
      exact ⟨_, _, rfl, rfl, c, k _ g H (.refl rl) (.int _)⟩
    · cases e
  · cases e))
theorem vAddS (ha : PE X a (tPk X.K tb W T fa)) (hb : PE X b (tPk X.K tb W T fb)) : PE X (.BinOp a .Add b pos) (tVl X.K tb W T (eB2 addS fa fb)) := pe_imp (pe_op op_add_str ha hb) (tOp_vl (by
  intro ρ σ g H x y vx vy fx fy d Q rl rx ry e k
  unfold addS at e
  split at e
  · split at e
    · rename_i c
      cases e
      cases rx; cases ry
      exact ⟨_, _, rfl, rfl, c, k _ g H (.refl rl) (.str _)⟩
    · cases e
  · cases e))
/-- a new list of frozen items is laid -/
theorem Rel.newL {g : Gh} {ρ : S} {σ : St} {H : Hp} {p : Addr} {t : Tg} {xs : List D} {vs : List V} {o : HO} (rl : Rel K tb T g ρ σ H) (hp : H p = none) (ho : HoOf tb t vs o) (h : Reps K tb g H xs vs []) :
    Step K tb T ρ σ g H g (upd H p o) ∧ Frs K tb T ρ σ H g (upd H p o) (.obj true t xs) (.ref p) := by
  have ext : Ext H (upd H p o) := fun a u e => by rw [upd_ne (ne_of_none e hp)]; exact e
  have le : Le g H g (upd H p o) := ⟨⟨[], by simp⟩, fun _ z => z, fun a u _ e => ext a u e⟩
  have st : Step K tb T ρ σ g H g (upd H p o) := ⟨rl.grow le ext rfl (fun a z => by
    obtain ⟨u, e⟩ := rl.zok a z
    exact ⟨u, ext a u e⟩) (fun a z => .inl z) (fun a n => by
      by_cases q : a = p
      · subst q; exact absurd (rl.new hp) n
      · exact upd_ne q), le, ext, rfl, fun a z => .inl z⟩
  have rp : Rep K tb g (upd H p o) (.obj true t xs) (.ref p) [p] := .own upd_same ho (h.stay le fun _ m => nomatch m)
  refine ⟨st, rl.pushN st (f := [p]) rp (by simp) (fun a m => ?_) (fun a m => ?_), [p], rp, fun a m => ?_⟩
  · simp at m; subst m; exact hp
  · simp at m; subst m; exact rl.newZ hp
  · simp at m; subst m; exact hp
/-- a new tuple -/
theorem Rel.newT {g : Gh} {ρ : S} {σ : St} {H : Hp} {p : Addr} {xs : List D} {vs : List V} (rl : Rel K tb T g ρ σ H) (hp : H p = none) (h : Reps K tb g H xs vs []) :
    Step K tb T ρ σ g H (g.add [p]) (upd H p (.tup vs)) ∧ Rep K tb (g.add [p]) (upd H p (.tup vs)) (.tup xs) (.ref p) [] := by
  have ext : Ext H (upd H p (.tup vs)) := fun a u e => by rw [upd_ne (ne_of_none e hp)]; exact e
  have le : Le g H (g.add [p]) (upd H p (.tup vs)) := ⟨⟨[], by simp [Gh.add]⟩, fun _ z => .inl z, fun a u _ e => ext a u e⟩
  have zn : ∀ a, (g.add [p]).Z a → g.Z a ∨ H a = none := fun a z => by
    rcases z with z | z
    · exact .inl z
    · simp at z; subst z; exact .inr hp
  refine ⟨⟨rl.grow le ext rfl (fun a z => ?_) zn (fun a n => ?_), le, ext, rfl, zn⟩, .tup (.inr (by simp)) (.inl upd_same) (h.stay le fun _ m => nomatch m)⟩
  · rcases z with z | z
    · obtain ⟨u, e⟩ := rl.zok a z
      exact ⟨u, ext a u e⟩
    · simp at z; subst z; exact ⟨_, upd_same⟩
  · by_cases q : a = p
    · subst q; exact absurd (rl.new hp) n
    · exact upd_ne q
/-- what a list, a tuple is read as -/
theorem Rep.isL {g : Gh} {H : Hp} {o : Bool} {xs : List D} {v : V} {f : List Addr} (h : Rep K tb g H (.obj o .lst xs) v f) : ∃ a vs, v = .ref a ∧ H a = some (.lst vs) ∧ Reps K tb g H xs vs (if o then f.tail else f) := by
  cases h with
  | frz z r ho q => cases ho; exact ⟨_, _, rfl, r, q⟩
  | own e ho q => cases ho; exact ⟨_, _, rfl, e, q⟩
theorem Rep.isR {g : Gh} {H : Hp} {o : Bool} {xs : List D} {v : V} {f : List Addr} (h : Rep K tb g H (.obj o .rol xs) v f) : ∃ a vs, v = .ref a ∧ SqL K H a vs ∧ Reps K tb g H xs vs [] := by
  cases h with
  | lstK k q => exact ⟨_, _, rfl, k.elim (fun k => .inr k) (fun k => .inl k.2), q⟩
  | frz z r ho q => exact (show False from ho).elim
  | own e ho q => exact (show False from ho).elim
theorem Rep.isT {g : Gh} {H : Hp} {xs : List D} {v : V} {f : List Addr} (h : Rep K tb g H (.tup xs) v f) : ∃ a vs, v = .ref a ∧ SqT K H a vs ∧ Reps K tb g H xs vs [] := by
  cases h with
  | tup z r q => exact ⟨_, _, rfl, .inl r, q⟩
  | tupK k q => exact ⟨_, _, rfl, .inr k, q⟩
/-- any sequence that is read: its items -/
def seqD : D → Option (List D)
  | .obj _ .lst xs => some xs
  | .obj _ .rol xs => some xs
  | .tup xs => some xs
  | _ => none
theorem Rep.seq {g : Gh} {H : Hp} {d : D} {xs : List D} {v : V} {f : List Addr} (h : Rep K tb g H d v f) (e : seqD d = some xs) : ∃ a vs f', v = .ref a ∧ (SqL K H a vs ∨ SqT K H a vs) ∧ Reps K tb g H xs vs f' := by
  unfold seqD at e
  split at e
  · cases e
    obtain ⟨a, vs, rfl, r, q⟩ := h.isL
    exact ⟨_, _, _, rfl, .inl (.inl (.inl r)), q⟩
  · cases e
    obtain ⟨a, vs, rfl, r, q⟩ := h.isR
    exact ⟨_, _, _, rfl, .inl r, q⟩
  · cases e
    obtain ⟨a, vs, rfl, r, q⟩ := h.isT
    exact ⟨_, _, _, rfl, .inr r, q⟩
  · cases e
theorem Reps.nof {g : Gh} {H : Hp} {xs : List D} {vs : List V} {f : List Addr} (h : Reps K tb g H xs vs f) (e : isFL xs = true) : Reps K tb g H xs vs [] := by
  rw [h.isF e] at h; exact h
theorem fAddL (ha : PE X a (tPk X.K tb W T fa)) (hb : PE X b (tPk X.K tb W T fb)) : PE X (.BinOp a .Add b pos) (tFr X.K tb W T (eB2 addL fa fb)) := pe_imp (pe_op op_cat ha hb) (tOp_fr (by
  intro ρ σ g H x y vx vy fx fy d Q rl rx ry e k
  unfold addL at e
  split at e
  · split at e
    · rename_i c
      cases e
      simp only [Bool.and_eq_true, decide_eq_true_eq] at c
      obtain ⟨p, vs, rfl, sl, q⟩ := rx.isL
      obtain ⟨p', vs', rfl, sl', q'⟩ := ry.isL
      refine ⟨p, p', vs, vs', rfl, rfl, sl, sl', ?_, fun l hl => ?_⟩
      · rw [← q.length, ← q'.length]; exact c.2
      · obtain ⟨st, rl'⟩ := rl.newL (xs := _ ++ _) hl (t := .lst) rfl ((q.nof c.1.1).append (q'.nof c.1.2))
        exact k _ _ _ st rl'
    · cases e
  · cases e))
end
end Tm

set_option Elab.async false
set_option linter.all false
set_option maxRecDepth 100000
set_option maxHeartbeats 1000000
namespace Tm
open PySem L2

/-! ### comparisons -/
section
variable {X : Cx} {tb : Tb} {W : WX} {T : Act} {a b : Expr} {fa fb : EX} {pos : Pos}
theorem vLt (ha : PE X a (tPk X.K tb W T fa)) (hb : PE X b (tPk X.K tb W T fb)) : PE X (.Compare a [.Lt] [b] pos) (tVl X.K tb W T (eB2 (cmpI fun i j => decide (i < j)) fa fb)) := pe_imp (pe_cmpR op_lt ha hb (nomark _)) (tOp_vl (opV_I0 fun i j _ _ => .bl _))
theorem vLe (ha : PE X a (tPk X.K tb W T fa)) (hb : PE X b (tPk X.K tb W T fb)) : PE X (.Compare a [.LtE] [b] pos) (tVl X.K tb W T (eB2 (cmpI fun i j => decide (i ≤ j)) fa fb)) := pe_imp (pe_cmpR op_le ha hb (nomark _)) (tOp_vl (opV_I0 fun i j _ _ => .bl _))
theorem vGt (ha : PE X a (tPk X.K tb W T fa)) (hb : PE X b (tPk X.K tb W T fb)) : PE X (.Compare a [.Gt] [b] pos) (tVl X.K tb W T (eB2 (cmpI fun i j => decide (j < i)) fa fb)) := pe_imp (pe_cmpR op_gt ha hb (nomark _)) (tOp_vl (opV_I0 fun i j _ _ => .bl _))
theorem vGe (ha : PE X a (tPk X.K tb W T fa)) (hb : PE X b (tPk X.K tb W T fb)) : PE X (.Compare a [.GtE] [b] pos) (tVl X.K tb W T (eB2 (cmpI fun i j => decide (j ≤ i)) fa fb)) := pe_imp (pe_cmpR op_ge ha hb (nomark _)) (tOp_vl (opV_I0 fun i j _ _ => .bl _))
end

mutual
def D.py : D → Option PyData
  | .non => some .none
  | .bl b => some (.bool b)
  | .int i => some (.int i)
  | .str s => some (.str s)
  | .tup xs => (pyL xs).map .tuple
  | .obj _ .lst xs => (pyL xs).map .list
  | .obj _ .rol xs => (pyL xs).map .list
  | .obj _ (.dic _) _ => none
  | .obj _ (.dit _) _ => none
  | .obj _ (.ins _ _) _ => none
  | .box _ => none
  | .fn _ => none
  | .cl _ => none
def pyL : List D → Option (List PyData)
  | [] => some []
  | x :: r => match x.py, pyL r with
    | some d, some ds => some (d :: ds)
    | _, _ => none
end
section
variable {K : PySem.W.Frag} {tb : Tb} {g : Gh} {H : Hp}
mutual
theorem Rep.dp : ∀ (d : D) (v : V) (f : List Addr) (p : PyData), Rep K tb g H d v f → d.py = some p → Dp K H v p
  | .non, _, _, _, h, e => by cases h; cases e; exact .non
  | .bl b, _, _, _, h, e => by cases h; cases e; exact .bl b
  | .int i, _, _, _, h, e => by cases h; cases e; exact .int i
  | .str s, _, _, _, h, e => by cases h; cases e; exact .str s
  | .tup xs, _, _, _, h, e => by
    obtain ⟨a, vs, rfl, r, q⟩ := h.isT
    simp only [D.py] at e
    cases z : pyL xs with
    | none => rw [z] at e; cases e
    | some ds =>
      rw [z] at e
      cases e
      exact .tup r (Reps.dp xs vs _ ds q z)
  | .obj o .lst xs, _, _, _, h, e => by
    obtain ⟨a, vs, rfl, r, q⟩ := h.isL
    simp only [D.py] at e
    cases z : pyL xs with
    | none => rw [z] at e; cases e
    | some ds =>
      rw [z] at e
      cases e
      exact .lst (.inl (.inl r)) (Reps.dp xs vs _ ds q z)
  | .obj o .rol xs, _, _, _, h, e => by
    obtain ⟨a, vs, rfl, r, q⟩ := h.isR
    simp only [D.py] at e
    cases z : pyL xs with
    | none => rw [z] at e; cases e
    | some ds =>
      rw [z] at e
      cases e
      exact .lst r (Reps.dp xs vs _ ds q z)
  | .obj _ (.dic _) _, _, _, _, _, e => by cases e
  | .obj _ (.dit _) _, _, _, _, _, e => by cases e
  | .obj _ (.ins _ _) _, _, _, _, _, e => by cases e
  | .box _, _, _, _, _, e => by cases e
  | .fn _, _, _, _, _, e => by cases e
  | .cl _, _, _, _, _, e => by cases e
theorem Reps.dp : ∀ (d : List D) (v : List V) (f : List Addr) (p : List PyData), Reps K tb g H d v f → pyL d = some p → DpAll K H v p
  | [], _, _, _, h, e => by cases h; cases e; exact .nil
  | x :: xs, _, _, _, h, e => by
    cases h with
    | cons r q =>
      simp only [pyL] at e
      cases z1 : x.py with
      | none => simp [z1] at e
      | some d =>
        cases z2 : pyL xs with
        | none => simp [z1, z2] at e
        | some ds =>
          simp [z1, z2] at e
          subst e
          exact .cons (Rep.dp x _ _ d r z1) (Reps.dp xs _ _ ds q z2)
end
end
def dEq : D → D → Option D := fun x y => match x.py, y.py with
  | some d, some e => if SeqAt.shaped d && SeqAt.shaped e then some (.bl (PyData.eqv d e)) else none
  | _, _ => none
def dNe : D → D → Option D := fun x y => match x.py, y.py with
  | some d, some e => if SeqAt.shaped d && SeqAt.shaped e then some (.bl (!PyData.eqv d e)) else none
  | _, _ => none
section
variable {X : Cx} {tb : Tb} {W : WX} {T : Act} {a b : Expr} {fa fb : EX} {pos : Pos} {k : Nat}
theorem vEq (hr : Room k X.A) (ha : PE X a (tPk X.K tb W T fa)) (hb : PE X b (tPk X.K tb W T fb)) : PE X (.Compare a [.Eq] [b] pos) (tVl X.K tb W T (eB2 dEq fa fb)) := pe_imp (pe_cmpR (op_eqD hr.units) ha hb (nomark _)) (tOp_vl (by
  intro ρ σ g H x y vx vy fx fy d Q rl rx ry e k
  unfold dEq at e
  split at e
  · rename_i d1 d2 e1 e2
    split at e
    · rename_i c
      cases e
      simp only [Bool.and_eq_true] at c
      exact ⟨d1, d2, Rep.dp _ _ _ _ rx e1, Rep.dp _ _ _ _ ry e2, c.1, c.2, k _ g H (.refl rl) (.bl _)⟩
    · cases e
  · cases e))
theorem vNe (hr : Room k X.A) (ha : PE X a (tPk X.K tb W T fa)) (hb : PE X b (tPk X.K tb W T fb)) : PE X (.Compare a [.NotEq] [b] pos) (tVl X.K tb W T (eB2 dNe fa fb)) := pe_imp (pe_cmpR (op_neD hr.units) ha hb (nomark _)) (tOp_vl (by
  intro ρ σ g H x y vx vy fx fy d Q rl rx ry e k
  unfold dNe at e
  split at e
  · rename_i d1 d2 e1 e2
    split at e
    · rename_i c
      cases e
      simp only [Bool.and_eq_true] at c
      exact ⟨d1, d2, Rep.dp _ _ _ _ rx e1, Rep.dp _ _ _ _ ry e2, c.1, c.2, k _ g H (.refl rl) (.bl _)⟩
    · cases e
  · cases e))
/-- one operand -/
def eU (op : D → Option D) (fa : EX) : EX := fun ρ => (fa ρ).bind fun x => R.of (op x)
def isNon : D → Bool
  | .non => true
  | _ => false
theorem Rep.isNon_iff {K : PySem.W.Frag} {g : Gh} {H : Hp} {d : D} {v : V} {f : List Addr} (h : Rep K tb g H d v f) : decide (v = .non) = isNon d := by
  cases h <;> simp [isNon]
theorem vIsN {j p'} (ha : PE X a (tPk X.K tb W T fa)) : PE X (.Compare a [.Is] [.Constant .none j p'] pos) (tVl X.K tb W T (eU (fun d => some (.bl (isNon d))) fa)) := pe_imp (pe_cmp (pc_isN ha) rfl) fun σ H Q ⟨g, ρ, rl, h⟩ =>
  ⟨g, ρ, rl, (Run.bind h).imp fun x _ h vx g1 H1 fx s1 rx => by
    have e := rx.isNon_iff
    show Q (.bl (decide (vx = .non))) H1
    rw [e]
    exact h _ g1 H1 s1 (.bl _)⟩
theorem vNotN {j p'} (ha : PE X a (tPk X.K tb W T fa)) : PE X (.Compare a [.IsNot] [.Constant .none j p'] pos) (tVl X.K tb W T (eU (fun d => some (.bl (!isNon d))) fa)) := pe_imp (pe_cmp (pc_notN ha) rfl) fun σ H Q ⟨g, ρ, rl, h⟩ =>
  ⟨g, ρ, rl, (Run.bind h).imp fun x _ h vx g1 H1 fx s1 rx => by
    have e := rx.isNon_iff
    show Q (.bl (!decide (vx = .non))) H1
    rw [e]
    exact h _ g1 H1 s1 (.bl _)⟩
end

/-! ### in -/
def flatD : D → Option V
  | .non => some .non
  | .bl b => some (.bl b)
  | .int i => some (.int i)
  | .str s => some (.str s)
  | _ => none
def flatDs : List D → Option (List V)
  | [] => some []
  | x :: r => match flatD x, flatDs r with
    | some v, some vs => some (v :: vs)
    | _, _ => none
theorem flatD_rep {K : PySem.W.Frag} {tb : Tb} {g : Gh} {H : Hp} {d : D} {v w : V} {f : List Addr} (h : Rep K tb g H d v f) (e : flatD d = some w) : v = w ∧ flatV v = true := by
  cases h <;> cases e <;> exact ⟨rfl, rfl⟩
theorem flatDs_rep {K : PySem.W.Frag} {tb : Tb} {g : Gh} {H : Hp} : ∀ {d : List D} {v w : List V} {f : List Addr}, Reps K tb g H d v f → flatDs d = some w → v = w ∧ v.all flatV = true
  | [], _, _, _, h, e => by cases h; cases e; exact ⟨rfl, rfl⟩
  | x :: xs, _, _, _, h, e => by
    cases h with
    | cons r q =>
      simp only [flatDs] at e
      cases z1 : flatD x with
      | none => simp [z1] at e
      | some d =>
        cases z2 : flatDs xs with
        | none => simp [z1, z2] at e
        | some ds =>
          simp [z1, z2] at e
          obtain ⟨e1, f1⟩ := flatD_rep r z1
          obtain ⟨e2, f2⟩ := flatDs_rep q z2
          subst e1 e2 e
          exact ⟨rfl, by rw [List.all_cons, f1, f2]; rfl⟩
/-- x in a list or tuple of flat items -/
def dIn (neg : Bool) : D → D → Option D := fun x y => match flatD x, (seqD y).bind flatDs with
  | some v, some vs => some (.bl (if neg then !inV v vs else inV v vs))
  | _, _ => none
theorem opV_in {K : PySem.W.Frag} {tb : Tb} {T : Act} {neg : Bool} : OpV K tb T (rIn K neg) (dIn neg) := by
  intro ρ σ g H x y vx vy fx fy d Q rl rx ry e k
  unfold dIn at e
  split at e
  · rename_i v vs e1 e2
    cases e
    cases z : seqD y with
    | none => rw [z] at e2; cases e2
    | some ys =>
      rw [z] at e2
      obtain ⟨p, ws, f', rfl, hq, q⟩ := ry.seq z
      obtain ⟨e3, f3⟩ := flatD_rep rx e1
      obtain ⟨e4, f4⟩ := flatDs_rep q e2
      subst e3 e4
      exact ⟨p, ws, rfl, hq, f3, f4, k _ g H (.refl rl) (.bl _)⟩
  · cases e
section
variable {X : Cx} {tb : Tb} {W : WX} {T : Act} {a b : Expr} {fa fb : EX} {pos : Pos} {k : Nat}
theorem vIn (ha : PE X a (tPk X.K tb W T fa)) (hb : PE X b (tPk X.K tb W T fb)) (hm : behindInMarks .In b = false := by rfl) : PE X (.Compare a [.In] [b] pos) (tVl X.K tb W T (eB2 (dIn false) fa fb)) := pe_imp (pe_cmpR op_in_seq ha hb hm) (tOp_vl opV_in)
theorem vNotIn (ha : PE X a (tPk X.K tb W T fa)) (hb : PE X b (tPk X.K tb W T fb)) (hm : behindInMarks .NotIn b = false := by rfl) : PE X (.Compare a [.NotIn] [b] pos) (tVl X.K tb W T (eB2 (dIn true) fa fb)) := pe_imp (pe_cmpR op_notIn_seq ha hb hm) (tOp_vl opV_in)
/-- one sign in a text -/
def dInS (neg : Bool) : D → D → Option D
  | .str x, .str z => match x.cps.toList with
    | [c] => some (.bl (if neg then !decide (c ∈ z.cps.toList) else decide (c ∈ z.cps.toList)))
    | _ => none
  | _, _ => none
theorem str1 {x : Str} {c : Nat} (h : x.cps.toList = [c]) : x = ⟨#[c]⟩ := by
  obtain ⟨⟨l⟩⟩ := x
  have h : l = [c] := h
  subst h; rfl
theorem vInS (ha : PE X a (tPk X.K tb W T fa)) (hb : PE X b (tPk X.K tb W T fb)) (hm : behindInMarks .In b = false := by rfl) : PE X (.Compare a [.In] [b] pos) (tVl X.K tb W T (eB2 (dInS false) fa fb)) := pe_imp (pe_cmpR op_in_sign ha hb hm) (tOp_vl (by
  intro ρ σ g H x y vx vy fx fy d Q rl rx ry e k
  unfold dInS at e
  split at e
  · split at e
    · rename_i c h
      cases e
      have h := str1 h
      subst h
      cases rx; cases ry
      exact ⟨_, _, rfl, rfl, k _ g H (.refl rl) (.bl _)⟩
    · cases e
  · cases e))
theorem vNotInS (ha : PE X a (tPk X.K tb W T fa)) (hb : PE X b (tPk X.K tb W T fb)) (hm : behindInMarks .NotIn b = false := by rfl) : PE X (.Compare a [.NotIn] [b] pos) (tVl X.K tb W T (eB2 (dInS true) fa fb)) := pe_imp (pe_cmpR op_notIn_sign ha hb hm) (tOp_vl (by
  intro ρ σ g H x y vx vy fx fy d Q rl rx ry e k
  unfold dInS at e
  split at e
  · split at e
    · rename_i c h
      cases e
      have h := str1 h
      subst h
      cases rx; cases ry
      exact ⟨_, _, rfl, rfl, k _ g H (.refl rl) (.bl _)⟩
    · cases e
  · cases e))
end

/-! ### and, or, not, if else: values -/
def eAnd (fa fb : EX) : EX := fun ρ => (fa ρ).bind fun x => match x with
  | .bl true => fb ρ
  | .bl false => .ok (.bl false)
  | _ => .no
def eOr (fa fb : EX) : EX := fun ρ => (fa ρ).bind fun x => match x with
  | .bl false => fb ρ
  | .bl true => .ok (.bl true)
  | _ => .no
def dNot : D → Option D
  | .bl b => some (.bl (!b))
  | _ => none
def eNot (fa : EX) : EX := eU dNot fa
def asB : D → R Bool
  | .bl b => .ok b
  | _ => .no
def bOf (fa : EX) : BX := fun ρ => (fa ρ).bind asB
def bAnd (fa fb : BX) : BX := fun ρ => (fa ρ).bind fun x => if x then fb ρ else .ok false
def bOr (fa fb : BX) : BX := fun ρ => (fa ρ).bind fun x => if x then .ok true else fb ρ
def bNot (fa : BX) : BX := fun ρ => (fa ρ).map fun b => !b
def eIte (c : BX) (fa fb : EX) : EX := fun ρ => (c ρ).bind fun b => if b then fa ρ else fb ρ
section
variable {X : Cx} {tb : Tb} {W : WX} {T : Act} {a b c : Expr} {fa fb : EX} {pos : Pos} {rest : List Expr}
theorem vOne {op} (h : PE X a (tVl X.K tb W T fa)) : PE X (.BoolOp op [a] pos) (tVl X.K tb W T fa) := pe_one h
theorem vAndB (ha : PE X a (tVl X.K tb W T fa)) (hb : PE X (.BoolOp .And (b :: rest) pos) (tVl X.K tb W T fb)) : PE X (.BoolOp .And (a :: b :: rest) pos) (tVl X.K tb W T (eAnd fa fb)) := pe_imp (pe_and ha hb) fun σ H Q ⟨g, ρ, rl, h⟩ =>
  ⟨g, ρ, rl, (Run.bind h).imp fun x _ h vx g1 H1 s1 rx => by
    split at h
    · cases rx
      exact ⟨true, rfl, by rw [if_pos rfl]; exact ⟨g1, ρ, s1.rel, Run.step (by exact stb_v) s1 h⟩⟩
    · cases rx
      exact ⟨false, rfl, by rw [if_neg Bool.false_ne_true]; exact h _ g1 H1 s1 (.bl _)⟩
    · exact h.elim⟩
theorem vOrB (ha : PE X a (tVl X.K tb W T fa)) (hb : PE X (.BoolOp .Or (b :: rest) pos) (tVl X.K tb W T fb)) : PE X (.BoolOp .Or (a :: b :: rest) pos) (tVl X.K tb W T (eOr fa fb)) := pe_imp (pe_or ha hb) fun σ H Q ⟨g, ρ, rl, h⟩ =>
  ⟨g, ρ, rl, (Run.bind h).imp fun x _ h vx g1 H1 s1 rx => by
    split at h
    · cases rx
      exact ⟨false, rfl, by rw [if_neg Bool.false_ne_true]; exact ⟨g1, ρ, s1.rel, Run.step (by exact stb_v) s1 h⟩⟩
    · cases rx
      exact ⟨true, rfl, by rw [if_pos rfl]; exact h _ g1 H1 s1 (.bl _)⟩
    · exact h.elim⟩
theorem vNotB (ha : PE X a (tVl X.K tb W T fa)) : PE X (.UnaryOp .Not a pos) (tVl X.K tb W T (eNot fa)) := pe_imp (pe_not ha) fun σ H Q ⟨g, ρ, rl, h⟩ =>
  ⟨g, ρ, rl, (Run.bind h).imp fun x _ h vx g1 H1 s1 rx => by
    unfold dNot at h
    split at h
    · cases rx
      exact ⟨_, rfl, h _ g1 H1 s1 (.bl _)⟩
    · exact h.elim⟩
/-- tests -/
theorem bVal (ha : PE X a (tPk X.K tb W T fa)) (he : ∀ whole, isTrue a X.env whole = (do let v ← whole; standAt a.pos; holding [v] (truthy v)) := by intro _; rfl) : PT X a (tBx X.K tb W T (bOf fa)) := pt_imp (pt_val ha he) fun σ H Q ⟨g, ρ, rl, h⟩ =>
  ⟨g, ρ, rl, (Run.bind h).imp fun x _ h vx g1 H1 fx s1 rx => by
    unfold asB at h
    split at h
    · cases rx
      exact ⟨_, rfl, h g1 H1 s1⟩
    · exact h.elim⟩
/-- a comparison as a test -/
theorem bCmpX {op : CmpOp} {e : Expr} (ha : PE X (.Compare a [op] [e] pos) (tPk X.K tb W T fa)) (he : ∀ whole, isTrue (.Compare a [op] [e] pos) X.env whole = isTrue (.Compare a [op] [e] pos) X.env whole) : True := trivial
variable {ba bb : BX}
theorem bAnd1 (ha : PT X a (tBx X.K tb W T ba)) : PW X (.BoolOp .And [a] pos) (tBx X.K tb W T ba) := pw_and1 ha
theorem bOr1 (ha : PT X a (tBx X.K tb W T ba)) : PW X (.BoolOp .Or [a] pos) (tBx X.K tb W T ba) := pw_or1 ha
theorem bAndC (ha : PT X a (tBx X.K tb W T ba)) (hb : PW X (.BoolOp .And (b :: rest) pos) (tBx X.K tb W T bb)) : PW X (.BoolOp .And (a :: b :: rest) pos) (tBx X.K tb W T (bAnd ba bb)) := pw_imp (pw_and ha hb) fun σ H Q ⟨g, ρ, rl, h⟩ =>
  ⟨g, ρ, rl, (Run.bind h).imp fun x _ h g1 H1 s1 => by
    cases x with
    | true => rw [if_pos rfl] at h ⊢; exact ⟨g1, ρ, s1.rel, Run.step (by exact stb_all) s1 h⟩
    | false => rw [if_neg Bool.false_ne_true] at h ⊢; exact h g1 H1 s1⟩
theorem bOrC (ha : PT X a (tBx X.K tb W T ba)) (hb : PW X (.BoolOp .Or (b :: rest) pos) (tBx X.K tb W T bb)) : PW X (.BoolOp .Or (a :: b :: rest) pos) (tBx X.K tb W T (bOr ba bb)) := pw_imp (pw_or ha hb) fun σ H Q ⟨g, ρ, rl, h⟩ =>
  ⟨g, ρ, rl, (Run.bind h).imp fun x _ h g1 H1 s1 => by
    cases x with
    | false => rw [if_neg Bool.false_ne_true] at h ⊢; exact ⟨g1, ρ, s1.rel, Run.step (by exact stb_all) s1 h⟩
    | true => rw [if_pos rfl] at h ⊢; exact h g1 H1 s1⟩
theorem bNotC (ha : PT X a (tBx X.K tb W T ba)) : PT X (.UnaryOp .Not a pos) (tBx X.K tb W T (bNot ba)) := pt_imp (pt_not ha) fun σ H Q ⟨g, ρ, rl, h⟩ =>
  ⟨g, ρ, rl, (Run.map h).imp fun x _ h g1 H1 s1 => h g1 H1 s1⟩
theorem vIte (hc : PT X c (tBx X.K tb W T ba)) (ha : PE X a (tVl X.K tb W T fa)) (hb : PE X b (tVl X.K tb W T fb)) : PE X (.IfExp c a b pos) (tVl X.K tb W T (eIte ba fa fb)) := pe_imp (pe_ifExp hc ha hb) fun σ H Q ⟨g, ρ, rl, h⟩ =>
  ⟨g, ρ, rl, (Run.bind h).imp fun x _ h g1 H1 s1 => by
    cases x with
    | true => rw [if_pos rfl] at h ⊢; exact ⟨g1, ρ, s1.rel, Run.step (by exact stb_v) s1 h⟩
    | false => rw [if_neg Bool.false_ne_true] at h ⊢; exact ⟨g1, ρ, s1.rel, Run.step (by exact stb_v) s1 h⟩⟩
end

/-! ### arguments, displays -/
def aNil : AX := fun _ => .ok []
def aCons (fa : EX) (fs : AX) : AX := fun ρ => (fa ρ).bind fun d => (fs ρ).map fun ds => d :: ds
section
variable {X : Cx} {tb : Tb} {W : WX} {T : Act} {a : Expr} {es : List Expr} {fa : EX} {fs : AX} {pos : Pos}
def tAp (K : PySem.W.Frag) (tb : Tb) (W : WX) (T : Act) (f : AX) : TA := fun σ H Q => ∃ g ρ, Rel K tb T g ρ σ H ∧ Run K tb W T ρ σ g H (f ρ) fun ds g H => ∀ vs g' H' fp, Step K tb T ρ σ g H g' H' → Reps K tb g' H' ds vs fp → Q vs H'
theorem paNil : PA X [] (tAx X.K tb W T aNil) := pa_imp pa_nil fun σ H Q ⟨g, ρ, rl, h⟩ => h [] g H (.refl rl) .nil
theorem paCons (ha : PE X a (tVl X.K tb W T fa)) (hs : PA X es (tAx X.K tb W T fs)) (hst : starEach (a :: es) X.env = (false, eval a X.env) :: starEach es X.env := by rfl) : PA X (a :: es) (tAx X.K tb W T (aCons fa fs)) := pa_imp (pa_cons ha hs hst) fun σ H Q ⟨g, ρ, rl, h⟩ =>
  ⟨g, ρ, rl, (Run.bind h).imp fun x _ h v g1 H1 s1 r1 => ⟨g1, ρ, s1.rel, (Run.step (by exact stb_v) s1 (Run.map h)).imp fun ds _ h vs g2 H2 s2 r2 => h (v :: vs) g2 H2 s2 (.cons (f := []) (s2.rep r1) r2)⟩⟩
theorem ppNil : PA X [] (tAp X.K tb W T aNil) := pa_imp pa_nil fun σ H Q ⟨g, ρ, rl, h⟩ => h [] g H [] (.refl rl) .nil
theorem ppCons (ha : PE X a (tPk X.K tb W T fa)) (hs : PA X es (tAp X.K tb W T fs)) (hst : starEach (a :: es) X.env = (false, eval a X.env) :: starEach es X.env := by rfl) : PA X (a :: es) (tAp X.K tb W T (aCons fa fs)) := pa_imp (pa_cons ha hs hst) fun σ H Q ⟨g, ρ, rl, h⟩ =>
  ⟨g, ρ, rl, (Run.bind h).imp fun x _ h v g1 H1 f1 s1 r1 => ⟨g1, ρ, s1.rel, (Run.step (by exact stb_vf) s1 (Run.map h)).imp fun ds _ h vs g2 H2 f2 s2 r2 => h (v :: vs) g2 H2 (f1 ++ f2) s2 (.cons (s2.rep r1) r2)⟩⟩
def eTup (fs : AX) : EX := fun ρ => (fs ρ).bind fun ds => if ds.length ≤ 10000 then .ok (.tup ds) else .no
def eLst (fs : AX) : EX := fun ρ => (fs ρ).bind fun ds => if ds.length ≤ 10000 then .ok (.obj true .lst ds) else .no
theorem le_line {n : Nat} (h : n ≤ 10000) : n ≤ sizeLine := by rw [sizeLine_eq]; omega
theorem vTup {x1} (h : PA X es (tAx X.K tb W T fs)) : PE X (.Tuple es x1 pos) (tVl X.K tb W T (eTup fs)) := pe_imp (pe_tup h) fun σ H Q ⟨g, ρ, rl, h⟩ =>
  ⟨g, ρ, rl, (Run.bind h).imp fun ds _ h vs g1 H1 s1 r1 => by
    by_cases c : ds.length ≤ 10000
    · rw [if_pos c] at h
      refine ⟨by rw [← r1.length]; exact le_line c, fun p hp => ?_⟩
      obtain ⟨st, rp⟩ := s1.rel.newT hp r1
      exact h _ _ _ (s1.trans st) rp
    · rw [if_neg c] at h; exact h.elim⟩
theorem fLst (h : PA X es (tAx X.K tb W T fs)) : PE X (.List es pos) (tFr X.K tb W T (eLst fs)) := pe_imp (pe_lst h) fun σ H Q ⟨g, ρ, rl, h⟩ =>
  ⟨g, ρ, rl, (Run.bind h).imp fun ds _ h vs g1 H1 s1 r1 => by
    by_cases c : ds.length ≤ 10000
    · rw [if_pos c] at h
      refine ⟨by rw [← r1.length]; exact le_line c, fun p hp => ?_⟩
      obtain ⟨st, rp⟩ := s1.rel.newL (t := .lst) hp rfl r1
      exact h _ _ _ (s1.trans st) (rp.back s1.ext)
    · rw [if_neg c] at h; exact h.elim⟩
end

/-! ### subscripts, slices -/
def dIx : D → D → Option D
  | .obj _ .lst xs, .int i => atI xs i
  | .obj _ .rol xs, .int i => atI xs i
  | .tup xs, .int i => atI xs i
  | .str z, .int i => if z.length ≤ sizeLine then (atI z.cps.toList i).map fun c => .str ⟨#[c]⟩ else none
  | _, _ => none
theorem Reps.atI {K : PySem.W.Frag} {tb : Tb} {g : Gh} {H : Hp} {xs : List D} {vs : List V} {f : List Addr} (h : Reps K tb g H xs vs f) {i : Int} {d : D} (e : atI xs i = some d) : ∃ v f', L2.atI vs i = some v ∧ Rep K tb g H d v f' := by
  unfold L2.atI at e ⊢
  rw [← h.length]
  cases z : ixN xs.length i with
  | none => rw [z] at e; cases e
  | some j =>
    rw [z] at e
    obtain ⟨u, f', e1, r, _⟩ := h.get (i := j) e
    exact ⟨u, f', e1, r⟩
def eSl (op : D → Option Int → Option Int → Option D) (fa : EX) (lo hi : S → R (Option Int)) : EX := fun ρ => (fa ρ).bind fun x => (lo ρ).bind fun l => (hi ρ).bind fun h => R.of (op x l h)
def tOx (K : PySem.W.Frag) (tb : Tb) (W : WX) (T : Act) (f : S → R (Option Int)) : TO := fun σ H Q => ∃ g ρ, Rel K tb T g ρ σ H ∧ Run K tb W T ρ σ g H (f ρ) fun o g H => ∀ g' H', Step K tb T ρ σ g H g' H' → Q o H'
def oNo : S → R (Option Int) := fun _ => .ok none
def oSo (fa : EX) : S → R (Option Int) := fun ρ => (fa ρ).bind fun x => match x with | .int i => .ok (some i) | _ => .no
def slL : D → Option Int → Option Int → Option D
  | .obj _ .lst xs, lo, hi => if isFL xs then some (.obj true .lst ((xs.drop (HT.sIx xs.length 0 lo)).take (HT.sIx xs.length xs.length hi - HT.sIx xs.length 0 lo))) else none
  | .obj _ .rol xs, lo, hi => if isFL xs then some (.obj true .lst ((xs.drop (HT.sIx xs.length 0 lo)).take (HT.sIx xs.length xs.length hi - HT.sIx xs.length 0 lo))) else none
  | _, _, _ => none
def slT : D → Option Int → Option Int → Option D
  | .tup xs, lo, hi => some (.tup ((xs.drop (HT.sIx xs.length 0 lo)).take (HT.sIx xs.length xs.length hi - HT.sIx xs.length 0 lo)))
  | _, _, _ => none
theorem Reps.uncons {K : PySem.W.Frag} {tb : Tb} {g : Gh} {H : Hp} {x : D} {xs : List D} {vs : List V} (h : Reps K tb g H (x :: xs) vs []) : ∃ v r, vs = v :: r ∧ Rep K tb g H x v [] ∧ Reps K tb g H xs r [] := by
  generalize hf : ([] : List Addr) = f at h
  cases h with
  | cons r q =>
    have hf := List.append_eq_nil_iff.mp hf.symm
    rw [hf.1, hf.2]
    rw [hf.1] at r
    rw [hf.2] at q
    exact ⟨_, _, rfl, r, q⟩
theorem Reps.drop {K : PySem.W.Frag} {tb : Tb} {g : Gh} {H : Hp} : ∀ {xs : List D} {vs : List V} (n : Nat), Reps K tb g H xs vs [] → Reps K tb g H (xs.drop n) (vs.drop n) []
  | _, _, 0, h => h
  | [], _, _ + 1, h => by cases h; exact .nil
  | x :: xs, _, n + 1, h => by
    obtain ⟨v, r, rfl, _, q⟩ := h.uncons
    exact Reps.drop n q
theorem Reps.take {K : PySem.W.Frag} {tb : Tb} {g : Gh} {H : Hp} : ∀ {xs : List D} {vs : List V} (n : Nat), Reps K tb g H xs vs [] → Reps K tb g H (xs.take n) (vs.take n) []
  | _, _, 0, h => .nil
  | [], _, _ + 1, h => by cases h; exact .nil
  | x :: xs, _, n + 1, h => by
    obtain ⟨v, r, rfl, p, q⟩ := h.uncons
    exact Reps.cons (f := []) (f' := []) p (Reps.take n q)
theorem Rep.tup_nil {K : PySem.W.Frag} {tb : Tb} {g : Gh} {H : Hp} {xs : List D} {v : V} {f : List Addr} (h : Rep K tb g H (.tup xs) v f) : Rep K tb g H (.tup xs) v [] := by
  cases h with
  | tup z r q => exact .tup z r q
  | tupK k q => exact .tupK k q
section
variable {X : Cx} {tb : Tb} {W : WX} {T : Act} {a b : Expr} {fa fb : EX} {pos p2 : Pos} {lo hi : Option Expr} {fl fh : S → R (Option Int)}
theorem pIx (ha : PE X a (tPk X.K tb W T fa)) (hb : PE X b (tPk X.K tb W T fb)) (hs : PlainIx b := by intro _ _; rfl) : PE X (.Subscript a b pos) (tPk X.K tb W T (eB2 dIx fa fb)) := pe_imp (pe_ix ix_seq ha hb hs) (tOp_pk (by
  intro ρ σ g H x y vx vy fx fy d Q rl rx ry e k
  unfold dIx at e
  split at e
  · cases ry
    obtain ⟨p, vs, rfl, r, q⟩ := rx.isL
    obtain ⟨v, f', e1, r1⟩ := q.atI e
    exact .inl ⟨p, vs, _, v, rfl, rfl, .inl (.inl r), e1, k v g H f' (.refl rl) r1⟩
  · cases ry
    obtain ⟨p, vs, rfl, r, q⟩ := rx.isR
    obtain ⟨v, f', e1, r1⟩ := q.atI e
    exact .inl ⟨p, vs, _, v, rfl, rfl, r, e1, k v g H f' (.refl rl) r1⟩
  · cases ry
    obtain ⟨p, vs, rfl, r, q⟩ := rx.isT
    obtain ⟨v, f', e1, r1⟩ := q.atI e
    exact .inr (.inl ⟨p, vs, _, v, rfl, rfl, r, e1, k v g H f' (.refl rl) r1⟩)
  · rename_i z i
    split at e
    · rename_i c
      cases rx; cases ry
      cases e1 : atI z.cps.toList i with
      | none => rw [e1] at e; cases e
      | some c' =>
        rw [e1] at e
        cases e
        exact .inr (.inr ⟨z, i, c', rfl, rfl, c, e1, k _ g H [] (.refl rl) (.str _)⟩)
    · cases e
  · cases e))
theorem poNo : PO X none (tOx X.K tb W T oNo) := ⟨fun pins s σ H Q I ⟨g, ρ, rl, h⟩ => (po_none (X := X)).run pins s σ H Q I (h g H (.refl rl))⟩
theorem poSo (h : PE X a (tPk X.K tb W T fa)) : PO X (some a) (tOx X.K tb W T (oSo fa)) := ⟨fun pins s σ H Q I ⟨g, ρ, rl, h'⟩ => (po_some h).run pins s σ H Q I ⟨g, ρ, rl, (Run.bind h').imp fun x _ h' v g1 H1 f1 s1 r1 => by
  split at h'
  · cases r1
    exact ⟨_, rfl, h' g1 H1 s1⟩
  · exact h'.elim⟩⟩
theorem fSlL (ha : PE X a (tPk X.K tb W T fa)) (hl : PO X lo (tOx X.K tb W T fl)) (hh : PO X hi (tOx X.K tb W T fh)) : PE X (.Subscript a (.Slice lo hi none p2) pos) (tFr X.K tb W T (eSl slL fa fl fh)) := pe_imp (pe_slice sl_list ha hl hh) fun σ H Q ⟨g, ρ, rl, h⟩ =>
  ⟨g, ρ, rl, (Run.bind h).imp fun x _ h vx g1 H1 fx s1 rx => by
    have h := Run.step (Run.stb (by exact stb_fr)) s1 (Run.bind h)
    refine ⟨g1, ρ, s1.rel, h.imp fun l _ h g2 H2 s2 => ?_⟩
    have h := Run.step (Run.stb (by exact stb_fr)) s2 (Run.bind h)
    refine ⟨g2, ρ, s2.rel, h.imp fun u _ h g3 H3 s3 => ?_⟩
    have rx := s3.rep (s2.rep rx)
    cases e : slL x l u with
    | none => rw [e] at h; exact h.elim
    | some d =>
      rw [e] at h
      unfold slL at e
      split at e
      · split at e
        · rename_i c
          cases e
          obtain ⟨p, vs, rfl, r, q⟩ := rx.isL
          have q := q.nof c
          refine ⟨p, vs, rfl, .inl (.inl r), fun pn hl => ?_⟩
          rw [q.length] at h
          unfold cutV
          have z := s3.rel.newL (t := .lst) hl rfl ((q.drop (HT.sIx vs.length 0 l)).take (HT.sIx vs.length vs.length u - HT.sIx vs.length 0 l))
          exact h _ _ _ (s3.trans z.1) (z.2.back s3.ext)
        · cases e
      · split at e
        · rename_i c
          cases e
          obtain ⟨p, vs, rfl, r, q⟩ := rx.isR
          refine ⟨p, vs, rfl, r, fun pn hl => ?_⟩
          rw [q.length] at h
          unfold cutV
          have z := s3.rel.newL (t := .lst) hl rfl ((q.drop (HT.sIx vs.length 0 l)).take (HT.sIx vs.length vs.length u - HT.sIx vs.length 0 l))
          exact h _ _ _ (s3.trans z.1) (z.2.back s3.ext)
        · cases e
      · cases e⟩
theorem vSlT (ha : PE X a (tPk X.K tb W T fa)) (hl : PO X lo (tOx X.K tb W T fl)) (hh : PO X hi (tOx X.K tb W T fh)) : PE X (.Subscript a (.Slice lo hi none p2) pos) (tVl X.K tb W T (eSl slT fa fl fh)) := pe_imp (pe_slice sl_tupA ha hl hh) fun σ H Q ⟨g, ρ, rl, h⟩ =>
  ⟨g, ρ, rl, (Run.bind h).imp fun x _ h vx g1 H1 fx s1 rx => by
    have h := Run.step (Run.stb (by exact stb_v)) s1 (Run.bind h)
    refine ⟨g1, ρ, s1.rel, h.imp fun l _ h g2 H2 s2 => ?_⟩
    have h := Run.step (Run.stb (by exact stb_v)) s2 (Run.bind h)
    refine ⟨g2, ρ, s2.rel, h.imp fun u _ h g3 H3 s3 => ?_⟩
    have rx := s3.rep (s2.rep rx)
    cases e : slT x l u with
    | none => rw [e] at h; exact h.elim
    | some d =>
      rw [e] at h
      unfold slT at e
      split at e
      · cases e
        have rx' := rx.tup_nil
        obtain ⟨p, vs, rfl, r, q⟩ := rx.isT
        refine ⟨p, vs, rfl, r, fun z => ?_, fun _ pn hl => ?_⟩
        · rw [← q.length] at z
          rw [z.1, z.2, List.drop_zero, Nat.sub_zero, List.take_length] at h
          exact h _ g3 H3 s3 rx'
        · obtain ⟨st, rp⟩ := s3.rel.newT hl ((q.drop (HT.sIx vs.length 0 l)).take (HT.sIx vs.length vs.length u - HT.sIx vs.length 0 l))
          unfold cutV
          rw [q.length] at h
          exact h _ _ _ (s3.trans st) rp
      · cases e⟩
/-- tuples put together -/
theorem vAddT' (ha : PE X a (tPk X.K tb W T fa)) (hb : PE X b (tPk X.K tb W T fb)) : PE X (.BinOp a .Add b pos) (tVl X.K tb W T (eB2 addT fa fb)) := pe_imp (pe_op op_catA ha hb) (tOp_vl (by
  intro ρ σ g H x y vx vy fx fy d Q rl rx ry e k
  unfold addT at e
  split at e
  · split at e
    · rename_i xs ys c
      cases e
      have rx' := rx.tup_nil
      have ry' := ry.tup_nil
      obtain ⟨p, vs, rfl, sl, q⟩ := rx.isT
      obtain ⟨p', vs', rfl, sl', q'⟩ := ry.isT
      refine ⟨p, p', vs, vs', rfl, rfl, sl, sl', ?_, fun z => ?_, fun _ z => ?_, fun _ _ l hl => ?_⟩
      · rw [← q.length, ← q'.length]; exact c
      · subst z
        have : xs = [] := List.length_eq_zero_iff.mp (by rw [q.length]; rfl)
        subst this
        exact k _ g H (.refl rl) ry'
      · subst z
        have : ys = [] := List.length_eq_zero_iff.mp (by rw [q'.length]; rfl)
        subst this
        rw [List.append_nil] at k
        exact k _ g H (.refl rl) rx'
      · obtain ⟨st, rp⟩ := rl.newT hl (q.append q')
        exact k _ _ _ st rp
    · cases e
  · cases e))
end
end Tm

set_option Elab.async false
set_option linter.all false
set_option maxRecDepth 100000
set_option maxHeartbeats 1000000
namespace Tm
open PySem L2

/-! ### calls of what is built in -/
def eC (op : List D → Option D) (fs : AX) : EX := fun ρ => (fs ρ).bind fun ds => R.of (op ds)
def CaV (K : PySem.W.Frag) (tb : Tb) (T : Act) (r : List V → Hp → VK → Prop) (op : List D → Option D) : Prop := ∀ ρ σ g H ds vs fp d Q, Rel K tb T g ρ σ H → Reps K tb g H ds vs fp → op ds = some d →
  (∀ v g' H', Step K tb T ρ σ g H g' H' → Rep K tb g' H' d v [] → Q v H') → r vs H Q
def CaF (K : PySem.W.Frag) (tb : Tb) (T : Act) (r : List V → Hp → VK → Prop) (op : List D → Option D) : Prop := ∀ ρ σ g H ds vs fp d Q, Rel K tb T g ρ σ H → Reps K tb g H ds vs fp → op ds = some d →
  (∀ v g' H', Step K tb T ρ σ g H g' H' → Frs K tb T ρ σ H g' H' d v → Q v H') → r vs H Q
section
variable {K : PySem.W.Frag} {tb : Tb} {W : WX} {T : Act} {r : List V → Hp → VK → Prop} {op : List D → Option D} {fs : AX}
theorem tCB_vl (hr : CaV K tb T r op) : ∀ σ H Q, tVl K tb W T (eC op fs) σ H Q → tCB r (tAp K tb W T fs) σ H Q := fun σ H Q ⟨g, ρ, rl, h⟩ =>
  ⟨g, ρ, rl, (Run.bind h).imp fun ds _ h vs g1 H1 fp s1 r1 => by
    cases e : op ds with
    | none => rw [e] at h; exact h.elim
    | some d =>
      rw [e] at h
      exact hr ρ σ g1 H1 ds vs fp d Q s1.rel r1 e fun v g' H' s rp => h v g' H' (s1.trans s) rp⟩
theorem tCB_fr (hr : CaF K tb T r op) : ∀ σ H Q, tFr K tb W T (eC op fs) σ H Q → tCB r (tAp K tb W T fs) σ H Q := fun σ H Q ⟨g, ρ, rl, h⟩ =>
  ⟨g, ρ, rl, (Run.bind h).imp fun ds _ h vs g1 H1 fp s1 r1 => by
    cases e : op ds with
    | none => rw [e] at h; exact h.elim
    | some d =>
      rw [e] at h
      exact hr ρ σ g1 H1 ds vs fp d Q s1.rel r1 e fun v g' H' s rp => h v g' H' (s1.trans s) (rp.back s1.ext)⟩
end
def dLen : List D → Option D
  | [.str z] => if z.length ≤ sizeLine then some (.int z.length) else none
  | [d] => (seqD d).map fun xs => .int xs.length
  | _ => none
def dInt : List D → Option D
  | [.int i] => some (.int i)
  | [.bl b] => some (.int (if b then 1 else 0))
  | _ => none
def dList : List D → Option D
  | [d] => (seqD d).bind fun xs => if isFL xs then some (.obj true .lst xs) else none
  | _ => none
def dTuple : List D → Option D
  | [d] => (seqD d).bind fun xs => if isFL xs then some (.tup xs) else none
  | _ => none
def bools : List D → Option (List Bool)
  | [] => some []
  | .bl b :: r => (bools r).map fun bs => b :: bs
  | _ :: _ => none
def intsD : List D → Option (List Int)
  | [] => some []
  | .int i :: r => (intsD r).map fun bs => i :: bs
  | _ :: _ => none
def dAny : List D → Option D
  | [.obj _ .lst xs] => (bools xs).map fun bs => .bl (bs.any id)
  | _ => none
def dAll : List D → Option D
  | [.obj _ .lst xs] => (bools xs).map fun bs => .bl (bs.all id)
  | _ => none
def dSum : List D → Option D
  | [.obj _ .lst xs] => (intsD xs).map fun ns => .int ns.sum
  | _ => none
section
variable {K : PySem.W.Frag} {tb : Tb} {g : Gh} {H : Hp}
theorem Reps.one {x : D} {vs : List V} {f : List Addr} (h : Reps K tb g H [x] vs f) : ∃ v, vs = [v] ∧ Rep K tb g H x v f := by
  cases h with
  | cons r q =>
    cases q
    rw [List.append_nil]
    exact ⟨_, rfl, r⟩
theorem Reps.two {x y : D} {vs : List V} {f : List Addr} (h : Reps K tb g H [x, y] vs f) : ∃ v u f1 f2, vs = [v, u] ∧ Rep K tb g H x v f1 ∧ Rep K tb g H y u f2 := by
  cases h with
  | cons r q =>
    obtain ⟨u, rfl, q'⟩ := q.one
    exact ⟨_, _, _, _, rfl, r, q'⟩
theorem bools_rep : ∀ {xs : List D} {bs : List Bool} {vs : List V} {f : List Addr}, Reps K tb g H xs vs f → bools xs = some bs → vs = bs.map V.bl
  | [], _, _, _, h, e => by cases h; cases e; rfl
  | x :: xs, _, _, _, h, e => by
    cases h with
    | cons r q =>
      cases x <;> simp only [bools] at e <;> try cases e
      rename_i b
      cases z : bools xs with
      | none => rw [z] at e; cases e
      | some bs =>
        rw [z] at e
        cases e
        cases r
        rw [bools_rep q z]; rfl
theorem intsD_rep : ∀ {xs : List D} {bs : List Int} {vs : List V} {f : List Addr}, Reps K tb g H xs vs f → intsD xs = some bs → vs = bs.map V.int
  | [], _, _, _, h, e => by cases h; cases e; rfl
  | x :: xs, _, _, _, h, e => by
    cases h with
    | cons r q =>
      cases x <;> simp only [intsD] at e <;> try cases e
      rename_i b
      cases z : intsD xs with
      | none => rw [z] at e; cases e
      | some bs =>
        rw [z] at e
        cases e
        cases r
        rw [intsD_rep q z]; rfl
end
section
variable {X : Cx} {tb : Tb} {W : WX} {T : Act} {a : Expr} {es : List Expr} {fs : AX} {p pos : Pos}
theorem bltGl {x : Str} {id : String} (hm : X.mg x = none) : X.mg x = none := hm
theorem vLen (hm : X.mg "len" = none) (ha : PA X (a :: es) (tAp X.K tb W T fs)) (hg : Gl X "len" := by rfl)
    (he : starEach (a :: es) X.env = (false, eval a X.env) :: starEach es X.env := by rfl) (hpl : (backTo pos (starEach es X.env)).any (·.1) = false := by rfl) : PE X (.Call (.Name "len" p) (a :: es) [] pos) (tVl X.K tb W T (eC dLen fs)) :=
  pe_imp (pe_callB call_len hg hm PySem.boot_len ha (he := he) (hpl := hpl)) (tCB_vl (by
    intro ρ σ g H ds vs fp d Q rl rs e k
    unfold dLen at e
    split at e
    · split at e
      · rename_i c
        cases e
        obtain ⟨v, rfl, r⟩ := rs.one
        cases r
        exact ⟨_, _, rfl, ⟨c, rfl⟩, k _ g H (.refl rl) (.int _)⟩
      · cases e
    · rename_i x _
      cases z : seqD x with
      | none => rw [z] at e; cases e
      | some xs =>
        rw [z] at e
        cases e
        obtain ⟨v, rfl, r⟩ := rs.one
        obtain ⟨a, ws, f', rfl, hq, q⟩ := r.seq z
        refine ⟨_, ws.length, rfl, ?_, ?_⟩
        · rcases hq with hq | hq
          · exact .inl ⟨ws, hq, rfl⟩
          · exact .inr ⟨ws, hq, rfl⟩
        · rw [← q.length]
          exact k _ g H (.refl rl) (.int _)
    · cases e))
theorem vIntC (hm : X.mg "int" = none) (ha : PA X (a :: es) (tAp X.K tb W T fs)) (hg : Gl X "int" := by rfl)
    (he : starEach (a :: es) X.env = (false, eval a X.env) :: starEach es X.env := by rfl) (hpl : (backTo pos (starEach es X.env)).any (·.1) = false := by rfl) : PE X (.Call (.Name "int" p) (a :: es) [] pos) (tVl X.K tb W T (eC dInt fs)) :=
  pe_imp (pe_callTy call_int1 hg hm (by decide +kernel) ha (he := he) (hpl := hpl)) (tCB_vl (by
    intro ρ σ g H ds vs fp d Q rl rs e k
    unfold dInt at e
    split at e
    · cases e
      obtain ⟨v, rfl, r⟩ := rs.one
      cases r
      exact .inl ⟨_, rfl, k _ g H (.refl rl) (.int _)⟩
    · cases e
      obtain ⟨v, rfl, r⟩ := rs.one
      cases r
      exact .inr ⟨_, rfl, k _ g H (.refl rl) (.int _)⟩
    · cases e))
theorem fListC (hm : X.mg "list" = none) (ha : PA X (a :: es) (tAp X.K tb W T fs)) (hg : Gl X "list" := by rfl)
    (he : starEach (a :: es) X.env = (false, eval a X.env) :: starEach es X.env := by rfl) (hpl : (backTo pos (starEach es X.env)).any (·.1) = false := by rfl) : PE X (.Call (.Name "list" p) (a :: es) [] pos) (tFr X.K tb W T (eC dList fs)) :=
  pe_imp (pe_callTy call_list_of hg hm (by decide +kernel) ha (he := he) (hpl := hpl)) (tCB_fr (by
    intro ρ σ g H ds vs fp d Q rl rs e k
    unfold dList at e
    split at e
    · rename_i x
      cases z : seqD x with
      | none => rw [z] at e; cases e
      | some xs =>
        rw [z] at e
        simp only [Option.bind_some] at e
        split at e
        · rename_i c
          cases e
          obtain ⟨v, rfl, r⟩ := rs.one
          obtain ⟨a, ws, f', rfl, hq, q⟩ := r.seq z
          refine ⟨a, ws, rfl, hq, fun l hl => ?_⟩
          have w := rl.newL (t := .lst) hl rfl (q.nof c)
          exact k _ _ _ w.1 w.2
        · cases e
    · cases e))
theorem vTupleC (hm : X.mg "tuple" = none) (ha : PA X (a :: es) (tAp X.K tb W T fs)) (hg : Gl X "tuple" := by rfl)
    (he : starEach (a :: es) X.env = (false, eval a X.env) :: starEach es X.env := by rfl) (hpl : (backTo pos (starEach es X.env)).any (·.1) = false := by rfl) : PE X (.Call (.Name "tuple" p) (a :: es) [] pos) (tVl X.K tb W T (eC dTuple fs)) :=
  pe_imp (pe_callTy call_tuple_of hg hm (by decide +kernel) ha (he := he) (hpl := hpl)) (tCB_vl (by
    intro ρ σ g H ds vs fp d Q rl rs e k
    unfold dTuple at e
    split at e
    · rename_i x
      cases z : seqD x with
      | none => rw [z] at e; cases e
      | some xs =>
        rw [z] at e
        simp only [Option.bind_some] at e
        split at e
        · rename_i c
          cases e
          obtain ⟨v, rfl, r⟩ := rs.one
          have new : ∀ {a : Addr} {ws : List V} {f' : List Addr}, SqL X.K H a ws → Reps X.K tb g H xs ws f' → ∃ p ys, [V.ref a] = [.ref p] ∧ ((SqL X.K H p ys ∧ ∀ l, H l = none → Q (.ref l) (upd H l (.tup ys))) ∨ (SqT X.K H p ys ∧ Q (.ref p) H)) := fun {a ws f'} hq q =>
            ⟨a, ws, rfl, .inl ⟨hq, fun l hl => by
              have w := rl.newT hl (q.nof c)
              exact k _ _ _ w.1 w.2⟩⟩
          unfold seqD at z
          split at z
          · cases z
            obtain ⟨a, ws, rfl, hq, q⟩ := r.isL
            exact new (.inl (.inl hq)) q
          · cases z
            obtain ⟨a, ws, rfl, hq, q⟩ := r.isR
            exact new hq q
          · cases z
            have r' := r.tup_nil
            obtain ⟨a, ws, rfl, hq, q⟩ := r.isT
            exact ⟨a, ws, rfl, .inr ⟨hq, k _ g H (.refl rl) r'⟩⟩
          · cases z
        · cases e
    · cases e))
theorem vAnyC (hc : X.calm = true) (hm : X.mg "any" = none) (ha : PA X (a :: es) (tAp X.K tb W T fs)) (hg : Gl X "any" := by rfl)
    (he : starEach (a :: es) X.env = (false, eval a X.env) :: starEach es X.env := by rfl) (hpl : (backTo pos (starEach es X.env)).any (·.1) = false := by rfl) : PE X (.Call (.Name "any" p) (a :: es) [] pos) (tVl X.K tb W T (eC dAny fs)) :=
  pe_imp (pe_callB (cr_any hc) hg hm (by decide +kernel) ha (he := he) (hpl := hpl)) (tCB_vl (by
    intro ρ σ g H ds vs fp d Q rl rs e k
    unfold dAny at e
    split at e
    · rename_i o xs
      cases z : bools xs with
      | none => rw [z] at e; cases e
      | some bs =>
        rw [z] at e
        cases e
        obtain ⟨v, rfl, r⟩ := rs.one
        obtain ⟨a, ws, rfl, hq, q⟩ := r.isL
        rw [bools_rep q z] at hq
        exact ⟨a, bs, rfl, .inl (.inl hq), k _ g H (.refl rl) (.bl _)⟩
    · cases e))
theorem vAllC (hc : X.calm = true) (hm : X.mg "all" = none) (ha : PA X (a :: es) (tAp X.K tb W T fs)) (hg : Gl X "all" := by rfl)
    (he : starEach (a :: es) X.env = (false, eval a X.env) :: starEach es X.env := by rfl) (hpl : (backTo pos (starEach es X.env)).any (·.1) = false := by rfl) : PE X (.Call (.Name "all" p) (a :: es) [] pos) (tVl X.K tb W T (eC dAll fs)) :=
  pe_imp (pe_callB (cr_all hc) hg hm (by decide +kernel) ha (he := he) (hpl := hpl)) (tCB_vl (by
    intro ρ σ g H ds vs fp d Q rl rs e k
    unfold dAll at e
    split at e
    · rename_i o xs
      cases z : bools xs with
      | none => rw [z] at e; cases e
      | some bs =>
        rw [z] at e
        cases e
        obtain ⟨v, rfl, r⟩ := rs.one
        obtain ⟨a, ws, rfl, hq, q⟩ := r.isL
        rw [bools_rep q z] at hq
        exact ⟨a, bs, rfl, .inl (.inl hq), k _ g H (.refl rl) (.bl _)⟩
    · cases e))
theorem vSumC (hc : X.calm = true) (hm : X.mg "sum" = none) (ha : PA X (a :: es) (tAp X.K tb W T fs)) (hg : Gl X "sum" := by rfl)
    (he : starEach (a :: es) X.env = (false, eval a X.env) :: starEach es X.env := by rfl) (hpl : (backTo pos (starEach es X.env)).any (·.1) = false := by rfl) : PE X (.Call (.Name "sum" p) (a :: es) [] pos) (tVl X.K tb W T (eC dSum fs)) :=
  pe_imp (pe_callB (cr_sum hc) hg hm (by decide +kernel) ha (he := he) (hpl := hpl)) (tCB_vl (by
    intro ρ σ g H ds vs fp d Q rl rs e k
    unfold dSum at e
    split at e
    · rename_i o xs
      cases z : intsD xs with
      | none => rw [z] at e; cases e
      | some bs =>
        rw [z] at e
        cases e
        obtain ⟨v, rfl, r⟩ := rs.one
        obtain ⟨a, ws, rfl, hq, q⟩ := r.isL
        rw [intsD_rep q z] at hq
        exact ⟨a, bs, rfl, .inl (.inl hq), k _ g H (.refl rl) (.int _)⟩
    · cases e))
end

/-! ### isinstance with a built-in class -/
def tyD : D → Option String
  | .non => some "NoneType"
  | .bl _ => some "bool"
  | .int _ => some "int"
  | .str _ => some "str"
  | .tup _ => some "tuple"
  | .obj _ .lst _ => some "list"
  | .obj _ (.dic _) _ => some "dict"
  | _ => none
def dIsi (c : String) (d : D) : Option D := (tyD d).bind fun t => (kitB t c).map .bl
theorem Rep.ty {K : PySem.W.Frag} {tb : Tb} {g : Gh} {H : Hp} {d : D} {v : V} {f : List Addr} {t : String} (h : Rep K tb g H d v f) (e : tyD d = some t) : TyX K H v (.type t) := by
  cases h with
  | non => cases e; exact .base .non
  | bl b => cases e; exact .base (.bl b)
  | int i => cases e; exact .base (.int i)
  | str s => cases e; exact .base (.str s)
  | tup z r q =>
    cases e
    rcases r with r | ⟨o, r⟩
    · exact .base (.tup r)
    · exact .fTuple r
  | tupK k q =>
    cases e
    obtain ⟨o, its, n, h1, h2, _⟩ := k
    exact .kTuple h1 h2
  | lstK k q => cases e
  | @frz a t' xs vs o z r ho q =>
    cases t' <;> cases e
    · cases ho; exact .base (.lst r)
    · obtain ⟨_, ho⟩ := ho; cases ho; exact .base (.dK r)
  | @own a t' xs vs o f r ho q =>
    cases t' <;> cases e
    · cases ho; exact .base (.lst r)
    · obtain ⟨_, ho⟩ := ho; cases ho; exact .base (.dK r)
  | _ => cases e
section
variable {X : Cx} {tb : Tb} {W : WX} {T : Act} {a : Expr} {fa : EX} {p p2 pos : Pos}
theorem vIsi {c : String} {x : Str} (hm : X.mg "isinstance" = none) (hm2 : X.mg x = none) (hb : bootBuiltins x = some (.type c)) (ha : PE X a (tPk X.K tb W T fa)) (hg : Gl X "isinstance" := by rfl) (hg2 : Gl X x := by rfl) (hn : x ≠ "__name__" := by decide) (hd : (x == ("__debug__" : Str)) = false := by decide)
    (he : starEach [a, .Name x p2] X.env = (false, eval a X.env) :: starEach [.Name x p2] X.env := by rfl) (he2 : starEach [.Name x p2] X.env = (false, eval (.Name x p2) X.env) :: starEach [] X.env := by rfl) (hpl : (backTo pos (starEach [.Name x p2] X.env)).any (·.1) = false := by rfl) :
    PE X (.Call (.Name "isinstance" p) [a, .Name x p2] [] pos) (tVl X.K tb W T (eU (dIsi c) fa)) :=
  pe_imp (pe_callB call_isi hg hm (by decide +kernel) (pa_cons ha (pa_cons (pe_bltn (v := .ty c) hg2 hm2 hb rfl hn hd) pa_nil he2) he) (he := he) (hpl := hpl)) fun σ H Q ⟨g, ρ, rl, h⟩ =>
    ⟨g, ρ, rl, (Run.bind h).imp fun x _ h vx g1 H1 fx s1 rx => by
      unfold dIsi at h
      cases e : tyD x with
      | none => rw [e] at h; exact h.elim
      | some t =>
        rw [e] at h
        simp only [Option.bind_some] at h
        cases e2 : kitB t c with
        | none => rw [e2] at h; exact h.elim
        | some b =>
          rw [e2] at h
          exact ⟨vx, .ty c, _, _, b, rfl, .ty c, rx.ty e, kit_ty e2, h _ g1 H1 s1 (.bl _)⟩⟩
end

/-! ### how many different ints -/
def nub : List Int → List Int
  | [] => []
  | x :: r => if x ∈ r then nub r else x :: nub r
theorem mem_nub {x : Int} : ∀ {l : List Int}, x ∈ nub l ↔ x ∈ l
  | [] => Iff.rfl
  | y :: r => by
    unfold nub
    by_cases h : y ∈ r
    · rw [if_pos h, mem_nub, List.mem_cons]
      exact ⟨.inr, fun z => z.elim (fun e => e ▸ h) id⟩
    · rw [if_neg h, List.mem_cons, List.mem_cons, mem_nub]
theorem nub_nodup : ∀ l : List Int, (nub l).Nodup
  | [] => List.nodup_nil
  | y :: r => by
    unfold nub
    by_cases h : y ∈ r
    · rw [if_pos h]; exact nub_nodup r
    · rw [if_neg h]; exact List.nodup_cons.mpr ⟨fun z => h (mem_nub.mp z), nub_nodup r⟩
theorem nub_len_le : ∀ l : List Int, (nub l).length ≤ l.length
  | [] => Nat.le_refl _
  | y :: r => by
    unfold nub
    have := nub_len_le r
    split
    · simp; omega
    · simp; omega
theorem nub_len_eq : ∀ l : List Int, (nub l).length = l.length ↔ l.Nodup
  | [] => by simp [nub]
  | y :: r => by
    unfold nub
    have h1 := nub_len_le r
    by_cases h : y ∈ r
    · rw [if_pos h]
      constructor
      · intro e; simp at e; omega
      · intro e; exact absurd h (List.nodup_cons.mp e).1
    · rw [if_neg h, List.length_cons, List.length_cons, List.nodup_cons]
      constructor
      · intro e; exact ⟨h, (nub_len_eq r).mp (by omega)⟩
      · intro e; rw [(nub_len_eq r).mpr e.2]
theorem len_of_same {l m : List Int} (h1 : l.Nodup) (h2 : m.Nodup) (h : ∀ x, x ∈ l ↔ x ∈ m) : l.length = m.length :=
  ((List.perm_ext_iff_of_nodup h1 h2).mpr h).length_eq
theorem firstMet_nd (val : Nat → Int) : ∀ i, (PyProof.Rows.firstMet val i).Nodup
  | 0 => List.nodup_nil
  | i + 1 => by
    rw [PyProof.Rows.firstMet_succ]
    unfold PyProof.Rows.step_dedup
    have ih := firstMet_nd val i
    by_cases h : (PyProof.Rows.firstMet val i).any (· == val i) = true
    · rw [if_pos h]; exact ih
    · rw [if_neg h, List.nodup_append]
      refine ⟨ih, by simp, fun a ha b hb e => ?_⟩
      simp at hb
      subst hb e
      exact h (List.any_eq_true.mpr ⟨_, ha, by simp⟩)
theorem firstMet_len (ns : List Int) : (PyProof.Rows.firstMet (fun i => ns.getD i 0) ns.length).length = (nub ns).length := by
  refine len_of_same (firstMet_nd _ _) (nub_nodup _) fun x => ?_
  have h := PyProof.Rows.firstMet_any (fun i => ns.getD i 0) ns.length x
  have e : (List.range ns.length).map (fun i => ns.getD i 0) = ns := by
    refine List.ext_getElem (by simp) fun i h1 h2 => ?_
    simp [List.getD, List.getElem?_eq_getElem h2]
  rw [e] at h
  rw [mem_nub]
  have a1 : ∀ l : List Int, (l.any fun y => y == x) = true ↔ x ∈ l := fun l => by simp
  rw [← a1, ← a1, h]
def dLenSet (d : D) : Option D := (seqD d).bind fun xs => (intsD xs).bind fun ns => if ns.length ≤ 4000 then some (.int (nub ns).length) else none
section
open PySem.Spec PyProof.Rows
variable {X : Cx} {tb : Tb} {W : WX} {T : Act} {a : Expr} {fa : EX} {p p2 q pos : Pos}
theorem vLenSet (hm : X.mg "len" = none) (hm2 : X.mg "set" = none) (ha : PE X a (tPk X.K tb W T fa)) (hg : Gl X "len" := by rfl) (hg2 : Gl X "set" := by rfl) (hc : X.calm = true := by rfl)
    (na : starEach [a] X.env = (false, eval a X.env) :: starEach [] X.env := by rfl) : PE X (.Call (.Name "len" p) [.Call (.Name "set" p2) [a] [] q] [] pos) (tVl X.K tb W T (eU dLenSet fa)) := by
  refine ⟨fun pins s σ H Q I ⟨g, ρ, rl, h⟩ => ?_⟩
  refine Call_ (ld_blt I hg hm PySem.boot_len ?_)
  refine PyProof.Rows.callWith_builtin1 (PyProof.Rows.args_cons ?_ rfl) rfl rfl
  refine Call_ (ld_blt I hg2 hm2 PyProof.Rows.boot_set ?_)
  refine PyProof.Rows.callWith_type1 (PyProof.Rows.args_cons (thn (ha.run pins s σ H (fun v H1 => ∃ g1 f1 x, Step X.K tb T ρ σ g H g1 H1 ∧ Rep X.K tb g1 H1 x v f1 ∧ Run X.K tb W T ρ σ g1 H1 (R.of (dLenSet x)) fun d g H => ∀ v g' H', Step X.K tb T ρ σ g H g' H' → Rep X.K tb g' H' d v [] → Q v H') I ⟨g, ρ, rl, ?_⟩) fun v s1 ⟨x, H1, I1, r1, q1⟩ => PyProof.Rows.args_nil ?_) na) na rfl
  · exact (Run.bind h).imp fun x _ h vx g1 H1 fx s1 rx => ⟨g1, fx, x, s1, rx, Run.step (by exact stb_v) s1 h⟩
  · obtain ⟨g1, f1, y, st, rp, h⟩ := q1
    unfold dLenSet at h
    cases z : seqD y with
    | none => rw [z] at h; exact h.elim
    | some xs =>
      rw [z] at h
      simp only [Option.bind_some] at h
      cases z2 : intsD xs with
      | none => rw [z2] at h; exact h.elim
      | some ns =>
        rw [z2] at h
        simp only [Option.bind_some] at h
        split at h
        · rename_i c
          obtain ⟨l, vs, f', rfl, hq, rq⟩ := rp.seq z
          have ev := intsD_rep rq z2
          subst ev
          cases r1
          have fin : ∀ (h' : Heap) (tk : Nat) (o : Obj) (es : Array (Int × Value)) (ep : Nat) (t : SetTable), h'.get? s1.heap.objs.size = some o → o.ExactSet → o.data = .set es ep t → t.fits es.size = true → es.size = (nub ns).length →
              (∀ b o, s1.heap.get? b = some o → h'.get? b = some o) → wpAny (model X.prog X.w) X.A (call (.builtin "len") [.ref s1.heap.objs.size]) (EP X pins σ Q) X.xe { s1 with heap := h', toks := tk } := fun h' tk o es ep t ho hex hd hf hn hk => by
            have I2 : Inv X pins σ H1 { s1 with heap := h', toks := tk } := I1.kept fun b o e => hk b o e
            have hle : es.size < 2 ^ 62 := by
              have := nub_len_le ns
              rw [hn]
              have : (4000 : Nat) < 2 ^ 62 := by decide
              omega
            refine call_len_set ho hex hd hf (by omega) ⟨.int (nub ns).length, H1, I2.tok _, ⟨_, by rw [hn]⟩, h _ g1 H1 (.refl st.rel) (.int _)⟩
          rcases hq with hq | hq
          · obtain ⟨its, r, pl, hz⟩ := I1.list hq
            have hlen : its.toArray.size = ns.length := by rw [List.size_toArray, ← r.length, List.length_map]
            refine call_set_list (I1.ok.hd hc) pl.isList (by simpa using L2.intsAre_of r) (by rw [hlen]; unfold scanBound; omega) fun h' tk hS hk => ?_
            refine PyProof.Rows.args_nil ?_
            rw [hlen] at hS
            obtain ⟨o, es, ep, t, ho, hex, hd, _, _, _, hf, hn⟩ := hS
            exact fin h' tk o es ep t ho hex hd hf (by rw [← firstMet_len]; omega) fun b o e => hk b o (Heap.lt_size e) e
          · obtain ⟨its, r, pl, hz⟩ := I1.tuple hq
            refine call_set_tupI ns (I1.ok.hd hc) (show s1.heap.IsTuple l its.toArray from pl) (by simpa using L2.intsAre_of r) (by unfold scanBound; omega) fun h' tk c' R1 hcn k => ?_
            refine PyProof.Rows.args_nil ?_
            obtain ⟨o, es, ep, t, ho, hex, hdt, g', nd, hm2, hb, hf, hn, hr, hl2⟩ := R1
            have hl : es.size = (nub ns).length := by
              have z := len_of_same nd (nub_nodup ns) fun x => by
                rw [← hm2 x, mem_nub]; simp
              simpa using z
            exact fin h' tk o es ep t ho hex hdt hf hl k
        · exact h.elim
end
end Tm

set_option Elab.async false
set_option linter.all false
set_option maxRecDepth 100000
set_option maxHeartbeats 1000000
namespace Tm
open PySem L2

/-! ### slots stored -/
section
variable {K : PySem.W.Frag} {tb : Tb} {T : Act} {g : Gh} {ρ : S} {σ : St} {H : Hp} {d : D} {v : V}
theorem SlR.set {sl : List (Option D)} {σ : St} {f f' : List Addr} (h : SlR K tb g H sl σ f') (r : Rep K tb g H d v f) : ∀ i, SlR K tb g H (sl.set i (some d)) (σ.set i (some v)) f' ∨ ∃ a b c, f' = a ++ b ++ c ∧ SlR K tb g H (sl.set i (some d)) (σ.set i (some v)) (a ++ f ++ c) := by
  induction h with
  | nil => intro i; exact .inl .nil
  | @no sl v0 σ f1 q ih =>
    intro i
    cases i with
    | zero => exact .inr ⟨[], [], f1, rfl, .so r q⟩
    | succ i =>
      rcases ih i with z | ⟨a, b, c, e, z⟩
      · exact .inl (.no z)
      · exact .inr ⟨a, b, c, e, .no z⟩
  | @so d0 sl v0 σ f0 f1 r0 q ih =>
    intro i
    cases i with
    | zero => exact .inr ⟨[], f0, f1, rfl, .so r q⟩
    | succ i =>
      rcases ih i with z | ⟨a, b, c, e, z⟩
      · exact .inl (.so r0 z)
      · refine .inr ⟨f0 ++ a, b, c, by rw [e]; simp only [List.append_assoc], ?_⟩
        show SlR K tb g H (some d0 :: sl.set i (some d)) (some v0 :: List.set σ i (some v)) (f0 ++ a ++ f ++ c)
        rw [List.append_assoc, List.append_assoc, ← List.append_assoc a f c]
        exact SlR.so r0 z
theorem Rel.setSlot (r : Rel K tb T g (ρ.push d) (some v :: σ) H) (i : Nat) : Rel K tb T g (ρ.set i d) (σ.set i (some v)) H := by
  obtain ⟨f1, f2, s1, s2, nd, g1, gm, nz⟩ := id r.ex
  obtain ⟨f, f', rfl, rp, q⟩ : ∃ f f', f1 = f ++ f' ∧ Rep K tb g H d v f ∧ SlR K tb g H ρ.sl σ f' := by
    generalize hs : (ρ.push d).sl = sl at s1
    generalize hv : (some v :: σ) = σ1 at s1
    cases s1 with
    | nil => cases hv
    | no _ => cases hs
    | so r' q' => cases hs; cases hv; exact ⟨_, _, rfl, r', q'⟩
  have sub : ∃ f'', SlR K tb g H (ρ.sl.set i (some d)) (σ.set i (some v)) f'' ∧ (f'' ++ f2).Nodup ∧ ∀ a ∈ f'', a ∈ f ++ f' := by
    rcases q.set rp i with z | ⟨a, b, c, e, z⟩
    · refine ⟨f', z, ?_, fun x m => List.mem_append_right _ m⟩
      rw [List.append_assoc] at nd
      exact (List.nodup_append.mp nd).2.1
    · subst e
      refine ⟨a ++ f ++ c, z, ?_, fun x m => ?_⟩
      · have p : (a ++ f ++ c ++ f2).Perm (f ++ (a ++ c ++ f2)) := by
          have p1 : (a ++ f ++ c ++ f2).Perm (f ++ a ++ c ++ f2) := ((List.perm_append_comm (l₁ := a) (l₂ := f)).append_right c).append_right f2
          simpa only [List.append_assoc] using p1
        rw [p.nodup_iff]
        refine nd.sublist ?_
        have : (a ++ c).Sublist (a ++ b ++ c) := by
          rw [List.append_assoc]
          exact (List.Sublist.refl a).append (List.sublist_append_right b c)
        have h2 := (List.Sublist.refl f).append (this.append (List.Sublist.refl f2))
        simpa only [List.append_assoc] using h2
      · simp only [List.mem_append] at m ⊢
        rcases m with (m | m) | m
        · exact .inr (.inl (.inl m))
        · exact .inl m
        · exact .inr (.inr m)
  obtain ⟨f'', z, nd', sb⟩ := sub
  refine ⟨⟨f'', f2, z, s2, nd', fun a m => g1 a (sb a m), gm, fun a m => ?_⟩, r.zok, r.zg, r.fr, r.gn, r.pb⟩
  rcases List.mem_append.mp m with m | m
  · exact nz a (List.mem_append_left _ (sb a m))
  · exact nz a (List.mem_append_right _ m)
theorem SlR.setNone {sl : List (Option D)} {σ : St} {f' : List Addr} (h : SlR K tb g H sl σ f') : ∀ i o, ∃ f'', SlR K tb g H (sl.set i none) (σ.set i o) f'' ∧ f''.Sublist f' := by
  induction h with
  | nil => intro i o; exact ⟨[], .nil, List.Sublist.refl _⟩
  | @no sl v0 σ f1 q ih =>
    intro i o
    cases i with
    | zero => exact ⟨f1, .no q, List.Sublist.refl _⟩
    | succ i =>
      obtain ⟨f'', z, s⟩ := ih i o
      exact ⟨f'', .no z, s⟩
  | @so d0 sl v0 σ f0 f1 r0 q ih =>
    intro i o
    cases i with
    | zero => exact ⟨f1, .no q, List.sublist_append_right _ _⟩
    | succ i =>
      obtain ⟨f'', z, s⟩ := ih i o
      exact ⟨f0 ++ f'', .so r0 z, (List.Sublist.refl f0).append s⟩
theorem Rel.setNone (r : Rel K tb T g ρ σ H) (i : Nat) (o : Option V) : Rel K tb T g ⟨ρ.sl.set i none, ρ.bx⟩ (σ.set i o) H := by
  obtain ⟨f1, f2, s1, s2, nd, g1, gm, nz⟩ := r.ex
  obtain ⟨f, z, s⟩ := s1.setNone i o
  refine ⟨⟨f, f2, z, s2, nd.sublist (s.append (List.Sublist.refl _)), fun a m => g1 a (s.subset m), gm, fun a m => ?_⟩, r.zok, r.zg, r.fr, r.gn, r.pb⟩
  rcases List.mem_append.mp m with m | m
  · exact nz a (List.mem_append_left _ (s.subset m))
  · exact nz a (List.mem_append_right _ m)
theorem S.wipe_bx (ρ : S) : ∀ vs : List Nat, (ρ.wipe vs).bx = ρ.bx
  | [] => rfl
  | _ :: _ => rfl
theorem Rel.wipe (r : Rel K tb T g ρ σ H) : ∀ vs : List Nat, Rel K tb T g (ρ.wipe vs) (L2.wipe σ vs) H
  | [] => r
  | v :: vs => by
    have h := (Rel.wipe r vs).setNone v none
    rw [S.wipe_bx] at h
    exact h
theorem wipe_get (σ : St) (j : Nat) : ∀ vs : List Nat, (L2.wipe σ vs)[j]? = if j ∈ vs ∧ j < σ.length then some none else σ[j]?
  | [] => by simp [L2.wipe]
  | v :: vs => by
    unfold L2.wipe
    have ih := wipe_get σ j vs
    by_cases e : v = j
    · subst e
      by_cases h : v < σ.length
      · rw [List.getElem?_set_self (by rw [wipe_length]; exact h)]
        simp [h]
      · rw [List.getElem?_eq_none (by rw [List.length_set, wipe_length]; omega), if_neg (fun z => h z.2)]
        rw [List.getElem?_eq_none (by omega)]
    · rw [List.getElem?_set_ne e, ih]
      have : (j ∈ v :: vs) ↔ j ∈ vs := by
        rw [List.mem_cons]
        exact ⟨fun z => z.elim (fun q => absurd q.symm e) id, .inr⟩
      simp only [this]
theorem wipe_set (σ : St) (vs : List Nat) {i : Nat} (hi : i ∈ vs) (o : Option V) : L2.wipe (σ.set i o) vs = L2.wipe σ vs := by
  refine List.ext_getElem? fun j => ?_
  rw [wipe_get, wipe_get, List.length_set]
  by_cases h : j ∈ vs ∧ j < σ.length
  · rw [if_pos h, if_pos h]
  · rw [if_neg h, if_neg h]
    by_cases e : i = j
    · subst e
      by_cases hl : i < σ.length
      · exact absurd ⟨hi, hl⟩ h
      · rw [List.getElem?_eq_none (by rw [List.length_set]; omega), List.getElem?_eq_none (by omega)]
    · rw [List.getElem?_set_ne e]
theorem wipe_wipe (σ : St) (vs : List Nat) : L2.wipe (L2.wipe σ vs) vs = L2.wipe σ vs := by
  refine List.ext_getElem? fun j => ?_
  rw [wipe_get, wipe_get, wipe_length]
  by_cases h : j ∈ vs ∧ j < σ.length
  · rw [if_pos h, if_pos h]
  · rw [if_neg h]
end

/-! ### targets -/
/-- a target: its reading against its deed on data; Pw: what is kept of the slots -/
def TgOk (K : PySem.W.Frag) (tb : Tb) (T : Act) (Pw : St → St → Prop) (gt : TG) (bt : D → S → R S) : Prop := ∀ g ρ σ H d v Q ρ', Rel K tb T g (ρ.push d) (some v :: σ) H → bt d ρ = .ok ρ' →
  (∀ σ', Rel K tb T g ρ' σ' H → Pw σ σ' → Q σ' H) → gt v σ H Q
def bName (i : Nat) : D → S → R S := fun d ρ => .ok (ρ.set i d)
def setAll : List Nat → List D → S → S
  | i :: is, d :: ds, ρ => setAll is ds (ρ.set i d)
  | _, _, ρ => ρ
def bTup (is : List Nat) : D → S → R S := fun d ρ => match d with
  | .tup xs => if xs.length = is.length then .ok (setAll is xs ρ) else .no
  | _ => .no
def gAll : List Nat → TGs
  | [] => gNil
  | i :: is => gCons (gName i) (gAll is)
section
variable {K : PySem.W.Frag} {tb : Tb} {T : Act}
def Wp (vs : List Nat) : St → St → Prop := fun σ σ' => L2.wipe σ' vs = L2.wipe σ vs
def Any2 : St → St → Prop := fun _ _ => True
theorem tgName (i : Nat) : TgOk K tb T Any2 (gName i) (bName i) := fun g ρ σ H d v Q ρ' r e k => by
  cases e
  exact k _ (r.setSlot i) trivial
theorem tgNameW {i : Nat} {vs : List Nat} (hi : i ∈ vs) : TgOk K tb T (Wp vs) (gName i) (bName i) := fun g ρ σ H d v Q ρ' r e k => by
  cases e
  exact k _ (r.setSlot i) (wipe_set σ vs hi _)
theorem gAll_ok {P : St → St → Prop} (rf : ∀ σ, P σ σ) (tr : ∀ a b c, P a b → P b c → P a c) : ∀ (is : List Nat) (st : ∀ i ∈ is, ∀ σ v, P σ (σ.set i (some v))) {g : Gh} {ρ : S} {σ : St} {H : Hp} {xs : List D} {vs : List V} {Q : St → Hp → Prop}, Rel K tb T g ρ σ H → Reps K tb g H xs vs [] → xs.length = is.length →
    (∀ σ', Rel K tb T g (setAll is xs ρ) σ' H → P σ σ' → Q σ' H) → gAll is vs σ H Q
  | [], _, g, ρ, σ, H, xs, vs, Q, r, q, hl, k => by
    have : xs = [] := List.length_eq_zero_iff.mp hl
    subst this
    cases q
    exact ⟨rfl, k σ r (rf σ)⟩
  | i :: is, st, g, ρ, σ, H, [], vs, Q, r, q, hl, k => by simp at hl
  | i :: is, st, g, ρ, σ, H, x :: xs, vs, Q, r, q, hl, k => by
    obtain ⟨v, r1, rfl, q1, q2⟩ := q.uncons
    refine ⟨v, r1, rfl, ?_⟩
    exact gAll_ok rf tr is (fun j m => st j (List.mem_cons_of_mem _ m)) ((r.pushF q1).setSlot i) q2 (by simpa using hl) fun σ' r' p => k σ' r' (tr _ _ _ (st i List.mem_cons_self σ v) p)
theorem tgTupP {P : St → St → Prop} (rf : ∀ σ, P σ σ) (tr : ∀ a b c, P a b → P b c → P a c) (is : List Nat) (st : ∀ i ∈ is, ∀ σ v, P σ (σ.set i (some v))) {n : Nat} (hn : n = is.length) : TgOk K tb T P (gTup K n (gAll is)) (bTup is) := fun g ρ σ H d v Q ρ' r e k => by
  obtain ⟨f, rp, _, _, r0, _⟩ := r.pushed
  unfold bTup at e
  split at e
  · split at e
    · rename_i xs c
      cases e
      obtain ⟨a, vs, rfl, hq, q⟩ := rp.isT
      exact ⟨a, vs, rfl, hq, by rw [hn, ← c, q.length], gAll_ok rf tr is st r0 q c k⟩
    · cases e
  · cases e
theorem tgTup (is : List Nat) {n : Nat} (hn : n = is.length := by rfl) : TgOk K tb T Any2 (gTup K n (gAll is)) (bTup is) := tgTupP (fun _ => trivial) (fun _ _ _ _ _ => trivial) is (fun _ _ _ _ => trivial) hn
theorem tgTupW {vs : List Nat} (is : List Nat) (hs : ∀ i ∈ is, i ∈ vs) {n : Nat} (hn : n = is.length := by rfl) : TgOk K tb T (Wp vs) (gTup K n (gAll is)) (bTup is) :=
  tgTupP (P := Wp vs) (fun _ => rfl) (fun _ _ _ h h' => Eq.trans h' h) is (fun i m σ v => wipe_set σ vs (hs i m) _) hn
end

/-! ### what is walked -/
def Yld (K : PySem.W.Frag) (tb : Tb) (g : Gh) (H : Hp) (d : D) (x : V) (H3 : Hp) : Prop := (H3 = H ∧ Rep K tb g H d x []) ∨ ∃ t ds vs, d = .tup ds ∧ x = .ref t ∧ H t = none ∧ H3 = upd H t (.tup vs) ∧ Reps K tb g H ds vs []
theorem Yld.step {K : PySem.W.Frag} {tb : Tb} {T : Act} {g : Gh} {ρ : S} {σ : St} {H H3 : Hp} {d : D} {x : V} (r : Rel K tb T g ρ σ H) (y : Yld K tb g H d x H3) : ∃ g3, Step K tb T ρ σ g H g3 H3 ∧ Rep K tb g3 H3 d x [] := by
  rcases y with ⟨rfl, h⟩ | ⟨t, ds, vs, rfl, rfl, hn, rfl, h⟩
  · exact ⟨g, .refl r, h⟩
  · exact ⟨_, r.newT hn h⟩
/-- the items of a walk; ex: it must not be changed at all (a comprehension) -/
def Walk (K : PySem.W.Frag) (tb : Tb) (ex : Bool) (J : It) (xs : List D) (g : Gh) (H : Hp) : Prop := ∀ g2 H2, Le g H g2 H2 → (ex = true → Ext H H2) →
  (∀ i d, xs[i]? = some d → J.go i H2 ∧ ∀ x H3, J.yld i H2 x H3 → Yld K tb g2 H2 d x H3) ∧ J.stop xs.length H2
def tSrc (K : PySem.W.Frag) (tb : Tb) (W : WX) (T : Act) (ex : Bool) (f : S → R (List D)) : TI := fun σ H Q => ∃ g ρ, Rel K tb T g ρ σ H ∧ Run K tb W T ρ σ g H (f ρ) fun xs g H => ∀ g' H' J, Step K tb T ρ σ g H g' H' → Walk K tb ex J xs g' H' → Q J H'
theorem pi_imp {X : Cx} {tg e : Expr} {t t' : TI} (h : PI X tg e t) (i : ∀ σ H Q, t' σ H Q → t σ H Q) : PI X tg e t' := ⟨fun pins s σ H Q I q => h.run pins s σ H Q I (i _ _ _ q)⟩
def itL : D → R (List D)
  | .obj _ .lst xs => .ok xs
  | .obj _ .rol xs => .ok xs
  | _ => .no
def itP : D → R (List D)
  | .obj _ .lst xs => if isFL xs then .ok xs else .no
  | _ => .no
def itT : D → R (List D)
  | .tup xs => .ok xs
  | _ => .no
theorem Rep.lstF {K : PySem.W.Frag} {tb : Tb} {g : Gh} {H : Hp} {o : Bool} {xs : List D} {v : V} (h : Rep K tb g H (.obj o .lst xs) v []) : ∃ a vs, v = .ref a ∧ H a = some (.lst vs) ∧ g.Z a ∧ Reps K tb g H xs vs [] := by
  cases h with
  | frz z r ho q => cases ho; exact ⟨_, _, rfl, r, z, q⟩
section
variable {X : Cx} {tb : Tb} {W : WX} {T : Act} {tg e : Expr} {f : EX} {p pos : Pos}
theorem walk_itl {K : PySem.W.Frag} {ex : Bool} {a : Addr} {xs : List D} {vs : List V} {g : Gh} {H : Hp} (hs : ∀ g2 H2, Le g H g2 H2 → (ex = true → Ext H H2) → SqL K H2 a vs ∧ Reps K tb g2 H2 xs vs []) : Walk K tb ex (Itl K a) xs g H := fun g2 H2 l x => by
  obtain ⟨h1, q⟩ := hs g2 H2 l x
  refine ⟨fun i d e => ?_, ⟨vs, h1, Nat.le_of_eq q.length.symm⟩⟩
  obtain ⟨u, f', e1, r, hf⟩ := q.get e
  refine ⟨⟨vs, u, h1, e1⟩, fun x H3 ⟨e3, hx⟩ => ?_⟩
  subst e3
  have := hx vs h1
  rw [e1] at this
  cases this
  have hf' : f' = [] := by
    cases f' with
    | nil => rfl
    | cons a _ => exact absurd (hf a List.mem_cons_self) (by simp)
  subst hf'
  exact .inl ⟨rfl, r⟩
theorem walk_itt {K : PySem.W.Frag} {ex : Bool} {a : Addr} {xs : List D} {vs : List V} {g : Gh} {H : Hp} (hs : ∀ g2 H2, Le g H g2 H2 → (ex = true → Ext H H2) → SqT K H2 a vs ∧ Reps K tb g2 H2 xs vs []) : Walk K tb ex (Itt K a) xs g H := fun g2 H2 l x => by
  obtain ⟨h1, q⟩ := hs g2 H2 l x
  refine ⟨fun i d e => ?_, ⟨vs, h1, Nat.le_of_eq q.length.symm⟩⟩
  obtain ⟨u, f', e1, r, hf⟩ := q.get e
  refine ⟨⟨vs, u, h1, e1⟩, fun x H3 ⟨e3, hx⟩ => ?_⟩
  subst e3
  have := hx vs h1
  rw [e1] at this
  cases this
  have hf' : f' = [] := by
    cases f' with
    | nil => rfl
    | cons a _ => exact absurd (hf a List.mem_cons_self) (by simp)
  subst hf'
  exact .inl ⟨rfl, r⟩
theorem reps_le {K : PySem.W.Frag} {g g2 : Gh} {H H2 : Hp} {xs : List D} {vs : List V} (l : Le g H g2 H2) (q : Reps K tb g H xs vs []) : Reps K tb g2 H2 xs vs [] := q.stay l fun _ m => nomatch m
/-- a frozen list -/
theorem sList {ex : Bool} (h : PE X e (tVl X.K tb W T f)) : PI X tg e (tSrc X.K tb W T ex fun ρ => (f ρ).bind itL) := pi_imp (pi_list h) fun σ H Q ⟨g, ρ, rl, h⟩ =>
  ⟨g, ρ, rl, (Run.bind h).imp fun d _ h v g1 H1 s1 r1 => by
    unfold itL at h
    split at h
    · obtain ⟨a, vs, rfl, h1, z, q⟩ := r1.lstF
      exact ⟨a, rfl, ⟨vs, .inl (.inl h1)⟩, h g1 H1 _ s1 (walk_itl fun g2 H2 l _ => ⟨.inl (.inl (l.st _ _ z h1)), reps_le l q⟩)⟩
    · cases r1 with
      | lstK k q =>
        refine ⟨_, rfl, ⟨_, k.elim .inr fun k => .inl k.2⟩, h g1 H1 _ s1 (walk_itl fun g2 H2 l _ => ⟨?_, reps_le l q⟩)⟩
        rcases k with k | ⟨z, r⟩
        · exact .inr k
        · exact .inl (l.rd z r)
      | frz z r ho q => exact (show False from ho).elim
    · exact h.elim⟩
/-- a list of one's own, within a comprehension -/
theorem sListP (h : PE X e (tPk X.K tb W T f)) : PI X tg e (tSrc X.K tb W T true fun ρ => (f ρ).bind itP) := pi_imp (pi_list h) fun σ H Q ⟨g, ρ, rl, h⟩ =>
  ⟨g, ρ, rl, (Run.bind h).imp fun d _ h v g1 H1 fp s1 r1 => by
    unfold itP at h
    split at h
    · split at h
      · rename_i c
        obtain ⟨a, vs, rfl, h1, q⟩ := r1.isL
        have q := q.nof c
        exact ⟨a, rfl, ⟨vs, .inl (.inl h1)⟩, h g1 H1 _ s1 (walk_itl fun g2 H2 l x => ⟨.inl (.inl (x rfl _ _ h1)), reps_le l q⟩)⟩
      · exact h.elim
    · exact h.elim⟩
theorem sTup {ex : Bool} (h : PE X e (tVl X.K tb W T f)) : PI X tg e (tSrc X.K tb W T ex fun ρ => (f ρ).bind itT) := pi_imp (pi_tup h) fun σ H Q ⟨g, ρ, rl, h⟩ =>
  ⟨g, ρ, rl, (Run.bind h).imp fun d _ h v g1 H1 s1 r1 => by
    unfold itT at h
    split at h
    · cases r1 with
      | tup z r q => exact ⟨_, rfl, ⟨_, .inl r⟩, h g1 H1 _ s1 (walk_itt fun g2 H2 l _ => ⟨.inl (l.rd z r), reps_le l q⟩)⟩
      | tupK k q => exact ⟨_, rfl, ⟨_, .inr k⟩, h g1 H1 _ s1 (walk_itt fun g2 H2 l _ => ⟨.inr k, reps_le l q⟩)⟩
    · exact h.elim⟩
/-- ranges -/
def rngL (lo : Int) (n : Nat) : List D := (List.range n).map fun (i : Nat) => D.int (lo + i)
theorem walk_rng {K : PySem.W.Frag} {ex : Bool} {lo : Int} {n : Nat} {g : Gh} {H : Hp} : Walk K tb ex (Itr lo n) (rngL lo n) g H := fun g2 H2 l x => by
  refine ⟨fun i d e => ?_, by simp [rngL, Itr]⟩
  unfold rngL at e
  rw [List.getElem?_map] at e
  cases e1 : (List.range n)[i]? with
  | none => rw [e1] at e; cases e
  | some j =>
    rw [e1] at e
    cases e
    obtain ⟨h1, h2⟩ := List.getElem?_eq_some_iff.mp e1
    simp at h1 h2
    subst h2
    refine ⟨h1, fun x H3 ⟨e3, hx⟩ => ?_⟩
    subst e3 hx
    exact .inl ⟨rfl, .int _⟩
def it1 : List D → R (List D)
  | [.int j] => if -(2 ^ 62) ≤ j ∧ j < 2 ^ 62 then .ok (rngL 0 j.toNat) else .no
  | _ => .no
def it2 : List D → R (List D)
  | [.int i, .int j] => if -(2 ^ 62) ≤ i ∧ i < 2 ^ 62 ∧ -(2 ^ 62) ≤ j ∧ j < 2 ^ 62 then .ok (rngL i (j - i).toNat) else .no
  | _ => .no
theorem sRng1 {ex : Bool} {a : Expr} {fs : AX} (hm : X.mg "range" = none) (ha : PA X [a] (tAp X.K tb W T fs)) (hg : Gl X "range" := by rfl) (hs : starEach [a] X.env = [(false, eval a X.env)] := by rfl) : PI X tg (.Call (.Name "range" p) [a] [] pos) (tSrc X.K tb W T ex fun ρ => (fs ρ).bind it1) := pi_imp (pi_range1 hg hm ha hs) fun σ H Q ⟨g, ρ, rl, h⟩ =>
  ⟨g, ρ, rl, (Run.bind h).imp fun ds _ h vs g1 H1 fp s1 r1 => by
    unfold it1 at h
    split at h
    · split at h
      · rename_i c
        obtain ⟨v, rfl, r⟩ := r1.one
        cases r
        exact ⟨_, rfl, c.1, c.2, h g1 H1 _ s1 walk_rng⟩
      · exact h.elim
    · exact h.elim⟩
theorem sRng2 {ex : Bool} {a b : Expr} {fs : AX} (hm : X.mg "range" = none) (ha : PA X [a, b] (tAp X.K tb W T fs)) (hg : Gl X "range" := by rfl) (hs : starEach [a, b] X.env = [(false, eval a X.env), (false, eval b X.env)] := by rfl) (hs2 : starEach [b] X.env = [(false, eval b X.env)] := by rfl) : PI X tg (.Call (.Name "range" p) [a, b] [] pos) (tSrc X.K tb W T ex fun ρ => (fs ρ).bind it2) := pi_imp (pi_range2 hg hm ha hs hs2) fun σ H Q ⟨g, ρ, rl, h⟩ =>
  ⟨g, ρ, rl, (Run.bind h).imp fun ds _ h vs g1 H1 fp s1 r1 => by
    unfold it2 at h
    split at h
    · split at h
      · rename_i c
        obtain ⟨v, u, f1, f2, rfl, r, r'⟩ := r1.two
        cases r; cases r'
        exact ⟨_, _, rfl, c, h g1 H1 _ s1 walk_rng⟩
      · exact h.elim
    · exact h.elim⟩
/-- reversed(list), enumerate(list): of a frozen list -/
def itRev : List D → R (List D)
  | [.obj false .lst xs] => .ok xs.reverse
  | _ => .no
def enumL : Nat → List D → List D
  | _, [] => []
  | i, x :: r => .tup [.int (i : Nat), x] :: enumL (i + 1) r
def itEnum : List D → R (List D)
  | [.obj false .lst xs] => .ok (enumL 0 xs)
  | _ => .no
theorem enumL_get : ∀ (xs : List D) (k i : Nat), (enumL k xs)[i]? = xs[i]?.map fun x => .tup [.int ((k + i : Nat) : Int), x]
  | [], _, _ => by simp [enumL]
  | x :: xs, k, 0 => by simp [enumL]
  | x :: xs, k, i + 1 => by
    simp only [enumL, List.getElem?_cons_succ]
    rw [enumL_get xs (k + 1) i, show k + 1 + i = k + (i + 1) by omega]
theorem enumL_len : ∀ (xs : List D) (k : Nat), (enumL k xs).length = xs.length
  | [], _ => rfl
  | x :: xs, k => by simp [enumL, enumL_len xs]
theorem reps_none {K : PySem.W.Frag} {g : Gh} {H : Hp} {xs : List D} {vs : List V} (q : Reps K tb g H xs vs []) {i : Nat} {d : D} (e : xs[i]? = some d) : ∃ u, vs[i]? = some u ∧ Rep K tb g H d u [] := by
  obtain ⟨u, f', e1, r, hf⟩ := q.get e
  have hf' : f' = [] := by
    cases f' with
    | nil => rfl
    | cons a _ => exact absurd (hf a List.mem_cons_self) (by simp)
  subst hf'
  exact ⟨u, e1, r⟩
theorem sRev {ex : Bool} {a : Expr} {fs : AX} (hm : X.mg "reversed" = none) (ha : PA X [a] (tAx X.K tb W T fs)) (hg : Gl X "reversed" := by rfl) (hs : starEach [a] X.env = [(false, eval a X.env)] := by rfl) : PI X tg (.Call (.Name "reversed" p) [a] [] pos) (tSrc X.K tb W T ex fun ρ => (fs ρ).bind itRev) := pi_imp (pi_reversed hg hm ha hs) fun σ H Q ⟨g, ρ, rl, h⟩ =>
  ⟨g, ρ, rl, (Run.bind h).imp fun ds _ h vs g1 H1 s1 r1 => by
    unfold itRev at h
    split at h
    · rename_i _ xs _
      obtain ⟨v, rfl, r⟩ := r1.one
      obtain ⟨a, vs, rfl, h1, z, q⟩ := r.lstF
      refine ⟨a, vs, rfl, .inl (.inl h1), h g1 H1 _ s1 fun g2 H2 l _ => ?_⟩
      have h2 : SqL X.K H2 a vs := .inl (.inl (l.st _ _ z h1))
      have q2 := reps_le l q
      have hl := q2.length
      refine ⟨fun i d e => ?_, by simp [Itv]; omega⟩
      have hi : i < xs.length := by
        have := (List.getElem?_eq_some_iff.mp e).1
        simpa using this
      rw [List.getElem?_reverse hi] at e
      obtain ⟨u, e1, r2⟩ := reps_none q2 e
      rw [hl] at e1
      refine ⟨⟨by omega, vs, u, h2, e1⟩, fun x H3 ⟨e3, hx⟩ => ?_⟩
      subst e3
      have := hx vs h2
      rw [e1] at this
      cases this
      exact .inl ⟨rfl, r2⟩
    · exact h.elim⟩
theorem sEnum {ex : Bool} {a : Expr} {fs : AX} {elts : List Expr} {kk : Nat} {tpos : Pos} (hm : X.mg "enumerate" = none) (ha : PA X [a] (tAx X.K tb W T fs)) (hg : Gl X "enumerate" := by rfl) (hs : starEach [a] X.env = [(false, eval a X.env)] := by rfl) : PI X (.Tuple elts kk tpos) (.Call (.Name "enumerate" p) [a] [] pos) (tSrc X.K tb W T ex fun ρ => (fs ρ).bind itEnum) := pi_imp (pi_enum hg hm ha hs) fun σ H Q ⟨g, ρ, rl, h⟩ =>
  ⟨g, ρ, rl, (Run.bind h).imp fun ds _ h vs g1 H1 s1 r1 => by
    unfold itEnum at h
    split at h
    · rename_i _ xs _
      obtain ⟨v, rfl, r⟩ := r1.one
      obtain ⟨a, vs, rfl, h1, z, q⟩ := r.lstF
      refine ⟨a, vs, rfl, .inl (.inl h1), h g1 H1 _ s1 fun g2 H2 l _ => ?_⟩
      have h2 : SqL X.K H2 a vs := .inl (.inl (l.st _ _ z h1))
      have q2 := reps_le l q
      have hl := q2.length
      refine ⟨fun i d e => ?_, ⟨vs, h2, by rw [enumL_len, hl]; exact Nat.le_refl _⟩⟩
      rw [enumL_get] at e
      cases ex : xs[i]? with
      | none => rw [ex] at e; cases e
      | some y =>
        rw [ex] at e
        cases e
        obtain ⟨u, e1, r2⟩ := reps_none q2 ex
        refine ⟨⟨vs, u, h2, e1⟩, fun x H3 ⟨t, w, e3, hn, e4, hx⟩ => ?_⟩
        have := hx vs h2
        rw [e1] at this
        cases this
        refine .inr ⟨t, _, _, rfl, e3, hn, e4, ?_⟩
        rw [Nat.zero_add]
        exact .cons (f := []) (.int _) (.cons (f := []) r2 .nil)
    · exact h.elim⟩
end

/-! ### comprehensions -/
def W0 : WX := fun _ _ _ _ => False
def bYes : BX := fun _ => .ok true
def lcL (vs : List Nat) (bt : D → S → R S) (tt : BX) (fe : EX) (ρ : S) : List D → R (List D)
  | [] => .ok []
  | x :: r => (bt x (ρ.wipe vs)).bind fun ρ1 => (tt ρ1).bind fun b => if b = true then (fe ρ1).bind fun y => (lcL vs bt tt fe ρ r).map fun ys => y :: ys else lcL vs bt tt fe ρ r
def eLc (vs : List Nat) (bt : D → S → R S) (tt : BX) (fe : EX) (fx : S → R (List D)) : EX := fun ρ => (fx ρ).bind fun xs => if xs.length ≤ 16000000 then (match lcL vs bt tt fe ρ xs with
  | .ok ys => .ok (.obj true .lst ys)
  | _ => .no) else .no
section
variable {X : Cx} {tb : Tb} {W : WX} {T : Act}
theorem ptsYes : PTs X [] (tBx X.K tb W T bYes) := ⟨fun pins s σ H Q I ⟨g, ρ, rl, h⟩ => (pts_nil (X := X)).run pins s σ H Q I (h g H (.refl rl))⟩
theorem ptsOne {c : Expr} {t : TT} (h : PT X c t) : PTs X [c] t := pts_one h
/-- a heap to which the comprehension's list D has been written -/
theorem Step.mut {g g' : Gh} {ρ : S} {σ : St} {H H' : Hp} {p : Addr} {o : HO} (r : Rel X.K tb T g ρ σ H) (s : Step X.K tb T ρ σ g H g' H') (hn : H p = none) (hz : ¬ g'.Z p) : Step X.K tb T ρ σ g H g' (upd H' p o) ∧ Le g' H' g' (upd H' p o) := by
  have ext : Ext H (upd H' p o) := fun a u e => by rw [upd_ne (ne_of_none e hn)]; exact s.ext a u e
  have l2 : Le g' H' g' (upd H' p o) := ⟨⟨[], by simp⟩, fun _ z => z, fun a u z e => by
    have ne : a ≠ p := fun q => hz (by rw [← q]; exact z)
    rw [upd_ne ne]; exact e⟩
  have le : Le g H g' (upd H' p o) := s.le.trans l2
  refine ⟨⟨r.grow le ext s.bs (fun a z => ?_) s.zn (fun a n => ?_), le, ext, s.bs, s.zn⟩, l2⟩
  · obtain ⟨u, e⟩ := s.rel.zok a z
    exact ⟨u, l2.st a u z e⟩
  · have : a ≠ p := fun q => n (by rw [q]; exact r.new hn)
    rw [upd_ne this, s.rel.fr a n, r.fr a n]
end
end Tm

set_option Elab.async false
set_option linter.all false
set_option maxRecDepth 100000
set_option maxHeartbeats 1000000
namespace Tm
open PySem L2
section
variable {X : Cx} {tb : Tb} {W : WX} {T : Act}
theorem R.bind_eq_ok {α β : Type} {r : R α} {k : α → R β} {b : β} (h : r.bind k = .ok b) : ∃ a, r = .ok a ∧ k a = .ok b := by
  cases r with
  | ok a => exact ⟨a, rfl, h⟩
  | ex c => cases h
  | no => cases h
theorem R.map_eq_ok {α β : Type} {r : R α} {k : α → β} {b : β} (h : r.map k = .ok b) : ∃ a, r = .ok a ∧ k a = b := by
  cases r with
  | ok a => cases h; exact ⟨a, rfl, rfl⟩
  | ex c => cases h
  | no => cases h
theorem lcRead {vs : List Nat} {gt : TG} {bt : D → S → R S} {tt : BX} {fe : EX} {fx : S → R (List D)} (hgt : TgOk X.K tb T (Wp vs) gt bt) : ∀ σ H Q, tFr X.K tb W T (eLc vs bt tt fe fx) σ H Q → tLc (tSrc X.K tb W T true fx) gt (tBx X.K tb W0 T tt) (tVl X.K tb W0 T fe) vs σ H Q := fun σ H Q ⟨g, ρ, rl, h⟩ => by
  refine ⟨g, ρ, rl, (Run.bind h).imp fun xs _ h g1 H1 J s1 wk p hp => ?_⟩
  split at h
  · rename_i hlen
    split at h
    · rename_i ys hys
      have hp0 : H p = none := ext_none s1.ext hp
      have m0 := Step.mut (o := .lst []) s1.rel (.refl s1.rel) hp (s1.rel.newZ hp)
      refine ⟨fun i m H2 => m = xs.length - i ∧ i ≤ xs.length ∧ ∃ g2 ds us rest, Step X.K tb T ρ σ g1 H1 g2 H2 ∧ H2 p = some (.lst us) ∧ ¬ g2.Z p ∧ Reps X.K tb g2 H2 ds us [] ∧ lcL vs bt tt fe ρ (xs.drop i) = .ok rest ∧ ds ++ rest = ys ∧ ds.length ≤ i,
        ⟨xs.length, rfl, Nat.zero_le _, g1, [], [], ys, m0.1, upd_same, s1.rel.newZ hp, .nil, hys, rfl, Nat.le_refl _⟩, ?_⟩
      rintro i m H2 ⟨rfl, hi, g2, ds, us, rest, st, hD, hZ, rp, hl, hd, hn⟩
      obtain ⟨items, stop⟩ := wk g2 H2 st.le fun _ => st.ext
      by_cases c : i < xs.length
      · refine .inr ?_
        obtain ⟨go, yl⟩ := items i xs[i] (List.getElem?_eq_getElem c)
        rw [List.drop_eq_getElem_cons c] at hl
        unfold lcL at hl
        obtain ⟨ρ1, hb, hl⟩ := R.bind_eq_ok hl
        obtain ⟨b, ht, hl⟩ := R.bind_eq_ok hl
        refine ⟨go, fun H' => ∃ g3 ds us rest, Step X.K tb T ρ σ g1 H1 g3 H' ∧ H' p = some (.lst us) ∧ ¬ g3.Z p ∧ Reps X.K tb g3 H' ds us [] ∧ lcL vs bt tt fe ρ (xs.drop (i + 1)) = .ok rest ∧ ds ++ rest = ys ∧ ds.length ≤ i + 1,
          fun H' n => ⟨xs.length - (i + 1), by omega, rfl, c, n⟩, fun x H3 y => ?_⟩
        obtain ⟨g3, s3, r3⟩ := (yl x H3 y).step st.rel
        refine hgt g3 (ρ.wipe vs) (L2.wipe σ vs) H3 _ x _ ρ1 ((s3.rel.wipe vs).pushF r3) hb fun σ' rel' pw => ⟨Eq.trans pw (wipe_wipe σ vs), g3, ρ1, rel', ?_⟩
        rw [ht]
        intro g4 H4 s4
        have s4' := s4.other s3.rel rel'
        have s24 := s3.trans s4'
        cases b with
        | false =>
          rw [if_neg Bool.false_ne_true] at hl ⊢
          exact ⟨g4, ds, us, rest, st.trans s24, s24.ext _ _ hD, fun z => (s24.zn p z).elim hZ fun z => (by rw [hD] at z; cases z), s24.reps rp, hl, hd, by omega⟩
        | true =>
          rw [if_pos rfl] at hl ⊢
          obtain ⟨y', hy, hl⟩ := R.bind_eq_ok hl
          obtain ⟨rest', hl, e2⟩ := R.map_eq_ok hl
          refine ⟨g4, ρ1, s4.rel, ?_⟩
          rw [hy]
          intro v g5 H5 s5 r5
          have s25 := s24.trans (s5.other s4'.rel s4.rel)
          have hD5 := s25.ext _ _ hD
          have hZ5 : ¬ g5.Z p := fun z => (s25.zn p z).elim hZ fun z => (by rw [hD] at z; cases z)
          have mm := Step.mut (o := .lst (us ++ [v])) s1.rel (st.trans s25) hp hZ5
          have q5 := s25.reps rp
          refine ⟨us, hD5, ?_, g5, ds ++ [y'], us ++ [v], rest', mm.1, upd_same, hZ5, ?_, hl, by rw [← hd, ← e2, List.append_assoc]; rfl, by rw [List.length_append, List.length_singleton]; omega⟩
          · rw [← rp.length, sizeLine_eq]; omega
          · have := (reps_le mm.2 q5).append (.cons (f := []) (reps_le mm.2 (.cons (f := []) r5 .nil) |>.uncons.elim fun a ⟨b, e, h1, h2⟩ => by cases e; exact h1) .nil)
            exact this
      · have e : i = xs.length := by omega
        subst e
        rw [List.drop_length] at hl
        cases hl
        rw [List.append_nil] at hd
        subst hd
        refine .inl ⟨stop, ?_⟩
        have so := s1.trans st
        have rpn : Rep X.K tb g2 H2 (.obj true .lst ds) (.ref p) [p] := .own hD rfl rp
        refine h (.ref p) g2 H2 so ⟨rl.pushN so rpn (by simp) (fun a m => ?_) (fun a m => ?_), [p], rpn, fun a m => ?_⟩
        · simp at m; subst m; exact hp0
        · simp at m; subst m; exact hZ
        · simp at m; subst m; exact hp0
    · exact h.elim
  · exact h.elim
theorem fLc {elt tg iter : Expr} {ifs : List Expr} {scope : Scope} {own : List (Str × Nat)} {pos : Pos} {gt : TG} {bt : D → S → R S} {tt : BX} {fe : EX} {fx : S → R (List D)} (hc : X.calm = true) (hN : X.N.Nodup)
    (hi : PI X tg iter (tSrc X.K tb W T true fx)) (ok : BlkOk X.N X.env.scope scope own)
    (hg : ∀ (s : Shared) (H : Hp) (C : Addr) (cl : List (Str × Addr)) (fp : List Addr), PG (X.blk s H scope (compEnvC scope cl C X.env) fp) tg gt) (hgt : TgOk X.K tb T (Wp (own.map (·.2))) gt bt)
    (ht : ∀ (s : Shared) (H : Hp) (C : Addr) (cl : List (Str × Addr)) (fp : List Addr), PTs (X.blk s H scope (compEnvC scope cl C X.env) fp) ifs (tBx X.K tb W0 T tt))
    (he : ∀ (s : Shared) (H : Hp) (C : Addr) (cl : List (Str × Addr)) (fp : List Addr), PE (X.blk s H scope (compEnvC scope cl C X.env) fp) elt (tVl X.K tb W0 T fe)) (hs : ∀ x, foldedSetIterable iter X.env x = pure x := by intro _; rfl) :
    PE X (.ListComp elt [⟨tg, iter, ifs, 0⟩] scope pos) (tFr X.K tb W T (eLc (own.map (·.2)) bt tt fe fx)) := pe_imp (pe_lc hc hN hi ok hg ht he hs) (lcRead hgt)
end
end Tm

set_option Elab.async false
set_option linter.all false
set_option maxRecDepth 100000
set_option maxHeartbeats 1000000
namespace Tm
open PySem L2

/-! ### what a statement ends in -/
inductive Out where
  | nx (ρ : S) | rt (d : D) (bx : List D) | bk (ρ : S) | ct (ρ : S) | ex (c : Nat) (ρ : S) | no
abbrev SM := S → Out
section
variable (K : PySem.W.Frag) (tb : Tb) (W : WX) (T : Act)
def OutP (Dn : Ends) (g : Gh) (H : Hp) (o : Out) : Prop := match o with
  | .nx ρ' => ∀ g' σ' H', Rel K tb T g' ρ' σ' H' → Le g H g' H' → Dn.nx σ' H'
  | .rt d bx => ∀ g' v H', Rel K tb T g' ⟨[some d], bx⟩ [some v] H' → Le g H g' H' → Dn.rt v H'
  | .bk ρ' => ∀ g' σ' H', Rel K tb T g' ρ' σ' H' → Le g H g' H' → Dn.bk σ' H'
  | .ct ρ' => ∀ g' σ' H', Rel K tb T g' ρ' σ' H' → Le g H g' H' → Dn.ct σ' H'
  | .ex c ρ' => ∀ g' σ' H', Rel K tb T g' ρ' σ' H' → Le g H g' H' → W (.ref (tb.ca c)) none σ' H'
  | .no => False
def tSt (f : SM) : TS := fun Dn σ H => ∃ g ρ, Rel K tb T g ρ σ H ∧ OutP K tb W T Dn g H (f ρ)
end
section
variable {K : PySem.W.Frag} {tb : Tb} {W : WX} {T : Act} {g g' : Gh} {H H' : Hp} {Dn : Ends}
theorem OutP.le {o : Out} (h : OutP K tb W T Dn g H o) (l : Le g H g' H') : OutP K tb W T Dn g' H' o := by
  cases o with
  | nx ρ => exact fun g2 σ H2 r l2 => h g2 σ H2 r (l.trans l2)
  | rt d bx => exact fun g2 v H2 r l2 => h g2 v H2 r (l.trans l2)
  | bk ρ => exact fun g2 σ H2 r l2 => h g2 σ H2 r (l.trans l2)
  | ct ρ => exact fun g2 σ H2 r l2 => h g2 σ H2 r (l.trans l2)
  | ex c ρ => exact fun g2 σ H2 r l2 => h g2 σ H2 r (l.trans l2)
  | no => exact h
end

/-! ### calls of the program's own defs that change nothing -/
structure CStep (g : Gh) (H : Hp) (g' : Gh) (H' : Hp) : Prop where
  ext : Ext H H'
  le : Le g H g' H'
  bs : g'.bs = g.bs
  zn : ∀ a, g'.Z a → g.Z a ∨ H a = none
  zok : ∀ a, g'.Z a → ∃ o, H' a = some o
theorem Rel.cstep {K : PySem.W.Frag} {tb : Tb} {T : Act} {g g' : Gh} {ρ : S} {σ : St} {H H' : Hp} (r : Rel K tb T g ρ σ H) (c : CStep g H g' H') : Step K tb T ρ σ g H g' H' :=
  ⟨r.grow c.le c.ext c.bs c.zok c.zn fun a n => by
    cases e : H a with
    | none => exact absurd (r.new e) n
    | some o => exact c.ext a o e, c.le, c.ext, c.bs, c.zn⟩
structure FPre (K : PySem.W.Frag) (tb : Tb) (g : Gh) (H : Hp) (ds : List D) (vs : List V) (bx : List D) : Prop where
  reps : Reps K tb g H ds vs []
  bxs : ∃ f, Reps K tb g H bx (g.bs.map V.ref) f ∧ f.Nodup ∧ ∀ a ∈ f, ¬ g.Z a
  zok : ∀ a, g.Z a → ∃ o, H a = some o
/-- the promise of a def: from data to data -/
def spP (K : PySem.W.Frag) (tb : Tb) (n : Nat) (F : List D → List D → R D) : Sp := fun vs H Q E => vs.length = n ∧ ∃ g ds bx, FPre K tb g H ds vs bx ∧ match F ds bx with
  | .ok d => ∀ v g' H', CStep g H g' H' → (∃ fp, Rep K tb g' H' d v fp ∧ fp.Nodup ∧ ∀ a ∈ fp, H a = none ∧ ¬ g'.Z a) → Q v H'
  | .ex c => ∀ g' H', CStep g H g' H' → E (.ref (tb.ca c)) none H'
  | .no => False
def eCall (n : Nat) (F : List D → List D → R D) (fs : AX) : EX := fun ρ => (fs ρ).bind fun ds => if ds.length = n then F ds ρ.bx else .no
section
variable {X : Cx} {tb : Tb} {W : WX} {T : Act} {k : Nat} {f : Addr} {fd : FuncData} {ps : List Str} {F : List D → List D → R D} {x : Str} {p pos : Pos} {e : Expr} {es : List Expr} {fs : AX}
theorem callRead {n : Nat} : ∀ σ H Q, tFr X.K tb W T (eCall n F fs) σ H Q → tCallS (spP X.K tb n F) (WE W) (tAx X.K tb W T fs) σ H Q := fun σ H Q ⟨g, ρ, rl, h⟩ =>
  ⟨g, ρ, rl, (Run.bind h).imp fun ds _ h vs g1 H1 s1 r1 => by
    split at h
    · rename_i c
      obtain ⟨f1, f2, sl, sb, nd, _, _, nz⟩ := s1.rel.ex
      refine ⟨by rw [← r1.length]; exact c, g1, ds, ρ.bx, ⟨r1, ⟨f2, sb, (List.nodup_append.mp nd).2.1, fun a m => nz a (List.mem_append_right _ m)⟩, s1.rel.zok⟩, ?_⟩
      cases e : F ds ρ.bx with
      | ok d =>
        rw [e] at h
        intro v g' H' cs ⟨fp, rp, nd', hn⟩
        have st := s1.rel.cstep cs
        exact h v g' H' (s1.trans st) ⟨s1.rel.pushN st rp nd' (fun a m => (hn a m).1) fun a m => (hn a m).2, fp, rp, fun a m => ext_none s1.ext (hn a m).1⟩
      | ex c =>
        rw [e] at h
        exact fun g' H' cs => h g' H' (s1.trans (s1.rel.cstep cs))
      | no => rw [e] at h; exact h
    · exact h.elim⟩
theorem fCall {n : Nat} (G : FnOk X.prog X.w X.K X.mg X.base (L2.CX X.prog X.w) k f fd ps (spP X.K tb n F)) (hr : Room k X.A) (hm : X.mg x = some (.ref f)) (hk : PySem.W.keepIn X.K (.ref f) = true) (hb : Binds X.K fd ps []) (tk : Takes X W)
    (ha : PA X (e :: es) (tAx X.K tb W T fs)) (hg : Gl X x := by rfl) (hdb : (x == ("__debug__" : Str)) = false := by decide) (he : starEach (e :: es) X.env = (false, eval e X.env) :: starEach es X.env := by rfl) (hpl : (backTo pos (starEach es X.env)).any (·.1) = false := by rfl) :
    PE X (.Call (.Name x p) (e :: es) [] pos) (tFr X.K tb W T (eCall n F fs)) := pe_imp (pe_callS G hr hg hm hk hb (fun σ => passAt tk σ) ha hdb he hpl) callRead
theorem takes0 : Takes X W0 := fun u s' ⟨_, _, _, _, _, _, _, _, _, _, _, _, _, _, _, _, w⟩ => w.elim
end

/-! ### the body of a def -/
def fnP (N : Nat) (body : SM) : List D → List D → R D := fun ds bx => match body ⟨ds.map some ++ List.replicate (N - ds.length) none, bx⟩ with
  | .rt d _ => .ok d
  | .nx _ => .ok .non
  | .ex c _ => .ex c
  | _ => .no
theorem slr_start {K : PySem.W.Frag} {tb : Tb} {g : Gh} {H : Hp} {m : Nat} : ∀ {ds : List D} {vs : List V}, Reps K tb g H ds vs [] → SlR K tb g H (ds.map some ++ List.replicate m none) (vs.map some ++ List.replicate m none) []
  | [], vs, h => by
    cases h
    simp only [List.map_nil, List.nil_append]
    induction m with
    | zero => exact .nil
    | succ m ih => exact .no ih
  | d :: ds, vs, h => by
    obtain ⟨v, r, rfl, h1, h2⟩ := h.uncons
    exact SlR.so (f := []) (f' := []) h1 (slr_start h2)
theorem Rel.cst {K : PySem.W.Frag} {tb : Tb} {g g' : Gh} {ρ : S} {σ : St} {H H' : Hp} (r : Rel K tb ⟨H, fun a => H a = none, g.Z, false, g.bs⟩ g' ρ σ H') (l : Le g H g' H') : CStep g H g' H' :=
  ⟨fun a o q => (r.fr a (by show ¬ H a = none; rw [q]; intro z; cases z)).trans q, l, r.pb rfl, r.zg, r.zok⟩
theorem fn_pure {P : Program} {w : World} {K : PySem.W.Frag} {mg : Str → Option Value} {base : Heap} {tb : Tb} {x qual : Str} {st : Stmt} {f : Addr} {fd : FuncData} {N ps : List Str} {k : Nat} {body : SM} (F : Fun K x qual st f fd) (Sc : FnScope N ps (defScope st))
    (hb : ∀ (cdv : Value) (A : Around) (outer : List Env) (s : Shared) (H : Hp) (E : XK) (T : Act), Room k (A.deeper (PyProof.Rows.envOfC qual (defScope st) s.heap.objs.size f cdv)) →
      PSs (cxOf (L2.CX P w) P w K mg base N qual (defScope st) f cdv A outer s H E) (defBody st) (tSt K tb (fun cls d _ H => E cls d H) T body)) :
    FnOk P w K mg base (L2.CX P w) (k + 1) f fd ps (spP K tb ps.length (fnP N.length body)) := by
  refine F.okX Sc (fun vs H Q E h => h.1) (fun cdv A outer s H vs Q E hr h => ?_)
  obtain ⟨hlen, g, ds, bx, pre, h⟩ := h
  refine ⟨_, hb cdv A outer s H E ⟨H, fun a => H a = none, g.Z, false, g.bs⟩ hr, g, ⟨ds.map some ++ List.replicate (N.length - ds.length) none, bx⟩, ?_, ?_⟩
  · obtain ⟨f2, b1, b2, b3⟩ := pre.bxs
    refine ⟨⟨[], f2, ?_, b1, b2, (fun a m => nomatch m), (fun z => nomatch z), b3⟩, pre.zok, fun a z => .inl z, fun a n => rfl, fun a z => z, fun _ => rfl⟩
    unfold L2.start
    rw [← pre.reps.length]
    exact slr_start pre.reps
  · unfold fnP at h
    cases e : body ⟨ds.map some ++ List.replicate (N.length - ds.length) none, bx⟩ with
    | nx ρ' =>
      rw [e] at h
      exact fun g' σ' H' r l => h _ g' H' (r.cst l) ⟨[], .non, List.nodup_nil, fun _ m => nomatch m⟩
    | rt d bx' =>
      rw [e] at h
      intro g' v H' r l
      obtain ⟨fp, rp, nd, hg, _⟩ := Rel.pushed (ρ := ⟨[], bx'⟩) (σ := []) r
      exact h v g' H' (r.cst l) ⟨fp, rp, nd, hg⟩
    | bk ρ' => rw [e] at h; exact h.elim
    | ct ρ' => rw [e] at h; exact h.elim
    | ex c ρ' =>
      rw [e] at h
      exact fun g' σ' H' r l => h g' H' (r.cst l)
    | no => rw [e] at h; exact h.elim
end Tm

set_option Elab.async false
set_option linter.all false
set_option maxRecDepth 100000
set_option maxHeartbeats 1000000
namespace Tm
open PySem L2

/-! ### blocks -/
def mSeq (f g : SM) : SM := fun ρ => match f ρ with
  | .nx ρ' => g ρ'
  | o => o
def mSkip : SM := fun ρ => .nx ρ
def mNo : SM := fun _ => .no
def mBk : SM := fun ρ => .bk ρ
def mCt : SM := fun ρ => .ct ρ
def S.frz (ρ : S) (i : Nat) : S := match ρ.sl[i]? with
  | some (some d) => ρ.set i d.frz
  | _ => ρ
def mFrz (i : Nat) (f : SM) : SM := fun ρ => f (ρ.frz i)
section
variable {X : Cx} {tb : Tb} {W : WX} {T : Act} {st : Stmt} {rest : List Stmt} {f g : SM} {pos : Pos}
theorem mNilR : PSs X [] (tSt X.K tb W T mSkip) := pss_imp pss_nil fun D σ H ⟨g, ρ, rl, h⟩ => h g σ H rl .refl
theorem mConsR (h1 : PS X st (tSt X.K tb W T f)) (h2 : PSs X rest (tSt X.K tb W T g)) : PSs X (st :: rest) (tSt X.K tb W T (mSeq f g)) := pss_imp (pss_cons h1 h2) fun D σ H ⟨g1, ρ, rl, h⟩ => ⟨g1, ρ, rl, by
  unfold mSeq at h
  cases e : f ρ with
  | nx ρ' =>
    rw [e] at h
    exact fun g' σ' H' r l => ⟨g', ρ', r, h.le l⟩
  | rt d bx => rw [e] at h; exact h
  | bk ρ' => rw [e] at h; exact h
  | ct ρ' => rw [e] at h; exact h
  | ex c ρ' => rw [e] at h; exact h
  | no => rw [e] at h; exact h⟩
theorem mOneR (h1 : PS X st (tSt X.K tb W T f)) : PSs X [st] (tSt X.K tb W T f) := pss_one h1
theorem mPassR : PS X (.Pass pos) (tSt X.K tb W T mSkip) := ps_imp ps_pass fun D σ H ⟨g, ρ, rl, h⟩ => h g σ H rl .refl
theorem mBreakR : PS X (.Break pos) (tSt X.K tb W T mBk) := ps_imp ps_break fun D σ H ⟨g, ρ, rl, h⟩ => h g σ H rl .refl
theorem mContR : PS X (.Continue pos) (tSt X.K tb W T mCt) := ps_imp ps_continue fun D σ H ⟨g, ρ, rl, h⟩ => h g σ H rl .refl
theorem mNever : PS X st (tSt X.K tb W T mNo) := ps_imp ps_never fun D σ H ⟨g, ρ, rl, h⟩ => h
theorem mNevers {sts : List Stmt} : PSs X sts (tSt X.K tb W T mNo) := pss_imp pss_never fun D σ H ⟨g, ρ, rl, h⟩ => h
/-- a list of one's own is no longer changed -/
theorem SlR.frzAt {K : PySem.W.Frag} {g : Gh} {H : Hp} {sl : List (Option D)} {σ : St} {f : List Addr} (h : SlR K tb g H sl σ f) : ∀ {i : Nat} {d : D}, sl[i]? = some (some d) → ∃ fa fd fb, f = fa ++ fd ++ fb ∧ (∀ a ∈ fd, ∃ o, H a = some o) ∧ SlR K tb (g.add fd) H (sl.set i (some d.frz)) σ (fa ++ fb) := by
  induction h with
  | nil => intro i d e; simp at e
  | @no sl v0 σ f1 q ih =>
    intro i d e
    cases i with
    | zero => simp at e
    | succ i =>
      obtain ⟨fa, fd, fb, e1, dm, z⟩ := ih (i := i) (by simpa using e)
      exact ⟨fa, fd, fb, e1, dm, .no z⟩
  | @so d0 sl v0 σ f0 f1 r0 q ih =>
    intro i d e
    cases i with
    | zero =>
      simp at e
      subst e
      refine ⟨[], f0, f1, rfl, r0.dom, ?_⟩
      refine SlR.so (f := []) (r0.frzz (Z' := (g.add f0).Z) (fun a z => .inl z) fun a m => .inr m) (q.stay (g' := g.add f0) ⟨⟨[], by simp [Gh.add]⟩, fun a z => Or.inl z, fun _ _ _ h => h⟩ fun _ _ _ h => h)
    | succ i =>
      obtain ⟨fa, fd, fb, e1, dm, z⟩ := ih (i := i) (by simpa using e)
      refine ⟨f0 ++ fa, fd, fb, by rw [e1]; simp only [List.append_assoc], dm, ?_⟩
      rw [List.append_assoc]
      exact SlR.so (r0.stay (g' := g.add fd) ⟨⟨[], by simp [Gh.add]⟩, fun a z => Or.inl z, fun _ _ _ h => h⟩ fun _ _ _ h => h) z
theorem Rel.frzAt {K : PySem.W.Frag} {g : Gh} {ρ : S} {σ : St} {H : Hp} (r : Rel K tb T g ρ σ H) (i : Nat) : ∃ g', Rel K tb T g' (ρ.frz i) σ H ∧ Le g H g' H := by
  unfold S.frz
  split
  · rename_i d e
    obtain ⟨f1, f2, s1, s2, nd, g1, gm, nz⟩ := id r.ex
    obtain ⟨fa, fd, fb, rfl, dm, z⟩ := s1.frzAt e
    have le : Le g H (g.add fd) H := ⟨⟨[], by simp [Gh.add]⟩, fun a z => .inl z, fun _ _ _ h => h⟩
    have p : (fa ++ fd ++ fb ++ f2).Perm (fd ++ (fa ++ fb ++ f2)) := by
      have p1 : (fa ++ fd ++ fb ++ f2).Perm (fd ++ fa ++ fb ++ f2) := ((List.perm_append_comm (l₁ := fa) (l₂ := fd)).append_right fb).append_right f2
      simpa only [List.append_assoc] using p1
    have nd2 := p.nodup_iff.mp nd
    rw [List.nodup_append] at nd2
    obtain ⟨n1, n2, n3⟩ := nd2
    refine ⟨g.add fd, ⟨⟨fa ++ fb, f2, z, s2.stay le fun _ _ _ h => h, n2, fun a m => g1 a ?_, gm, fun a m z => ?_⟩, fun a z => ?_, fun a z => ?_, r.fr, r.gn, r.pb⟩, le⟩
    · simp only [List.mem_append] at m ⊢
      rcases m with m | m
      · exact .inl (.inl m)
      · exact .inr m
    · rcases z with z | z
      · refine nz a ?_ z
        simp only [List.mem_append] at m ⊢
        rcases m with (m | m) | m
        · exact .inl (.inl (.inl m))
        · exact .inl (.inr m)
        · exact .inr m
      · exact n3 a z a m rfl
    · rcases z with z | z
      · exact r.zok a z
      · exact dm a z
    · rcases z with z | z
      · exact r.zg a z
      · refine .inr (g1 a ?_)
        simp only [List.mem_append]
        exact .inl (.inr z)
  · exact ⟨g, r, .refl⟩
theorem mFrzR (i : Nat) (h : PSs X rest (tSt X.K tb W T f)) : PSs X rest (tSt X.K tb W T (mFrz i f)) := pss_imp h fun D σ H ⟨g, ρ, rl, h⟩ => by
  obtain ⟨g', r', l⟩ := rl.frzAt i
  exact ⟨g', ρ.frz i, r', h.le l⟩
end

/-! ### stores, returns -/
def mSet (bt : D → S → R S) (f : EX) : SM := fun ρ => match f ρ with
  | .ok d => (match bt d ρ with
    | .ok ρ' => .nx ρ'
    | _ => .no)
  | .ex c => .ex c ρ
  | .no => .no
def mRet (f : EX) : SM := fun ρ => match f ρ with
  | .ok d => .rt d ρ.bx
  | .ex c => .ex c ρ
  | .no => .no
def mRetN : SM := fun ρ => .rt .non ρ.bx
def mRetV (i : Nat) : SM := fun ρ => match ρ.sl[i]? with
  | some (some d) => .rt d ρ.bx
  | _ => .no
def mDrop (f : EX) : SM := fun ρ => match f ρ with
  | .ok _ => .nx ρ
  | .ex c => .ex c ρ
  | .no => .no
def mIf (c : BX) (f g : SM) : SM := fun ρ => match c ρ with
  | .ok b => if b = true then f ρ else g ρ
  | .ex e => .ex e ρ
  | .no => .no
theorem SlR.getSub {K : PySem.W.Frag} {tb : Tb} {g : Gh} {H : Hp} {sl : List (Option D)} {σ : St} {f : List Addr} (h : SlR K tb g H sl σ f) {i : Nat} {d : D} (e : sl[i]? = some (some d)) : ∃ v f', σ[i]? = some (some v) ∧ Rep K tb g H d v f' ∧ f'.Sublist f := by
  induction h generalizing i with
  | nil => simp at e
  | no _ ih =>
    cases i with
    | zero => simp at e
    | succ i => exact ih (by simpa using e)
  | so r q ih =>
    cases i with
    | zero =>
      simp at e
      subst e
      exact ⟨_, _, rfl, r, List.sublist_append_left _ _⟩
    | succ i =>
      obtain ⟨v, f', h1, h2, h3⟩ := ih (by simpa using e)
      exact ⟨v, f', by simpa using h1, h2, h3.trans (List.sublist_append_right _ _)⟩
section
variable {K : PySem.W.Frag} {tb : Tb} {T : Act} {g : Gh} {ρ : S} {σ : St} {H : Hp} {d : D} {v : V}
theorem Rel.retSub {f : List Addr} (r : Rel K tb T g ρ σ H) (rp : Rep K tb g H d v f) (hs : ∀ f1, SlR K tb g H ρ.sl σ f1 → f.Sublist f1) : Rel K tb T g ⟨[some d], ρ.bx⟩ [some v] H := by
  obtain ⟨f1, f2, s1, s2, nd, g1, gm, nz⟩ := r.ex
  have s := hs f1 s1
  refine ⟨⟨f ++ [], f2, .so rp .nil, s2, ?_, fun a m => g1 a ?_, gm, fun a m => nz a ?_⟩, r.zok, r.zg, r.fr, r.gn, r.pb⟩
  · rw [List.append_nil]
    exact nd.sublist (s.append (List.Sublist.refl _))
  · rw [List.append_nil] at m; exact s.subset m
  · rw [List.append_nil] at m
    exact (s.append (List.Sublist.refl f2)).subset m
theorem Rel.ret (r : Rel K tb T g (ρ.push d) (some v :: σ) H) : Rel K tb T g ⟨[some d], ρ.bx⟩ [some v] H := by
  obtain ⟨f1, f2, s1, s2, nd, g1, gm, nz⟩ := id r.ex
  obtain ⟨f, f', rfl, rp, q⟩ : ∃ f f', f1 = f ++ f' ∧ Rep K tb g H d v f ∧ SlR K tb g H ρ.sl σ f' := by
    generalize hs : (ρ.push d).sl = sl at s1
    generalize hv : (some v :: σ) = σ1 at s1
    cases s1 with
    | nil => cases hv
    | no _ => cases hs
    | so r' q' => cases hs; cases hv; exact ⟨_, _, rfl, r', q'⟩
  exact Rel.retSub (ρ := ρ.push d) r rp fun f3 s3 => by
    have := s3.fp_det s1 fun _ _ _ h => h
    subst this
    exact List.sublist_append_left _ _
end
section
variable {X : Cx} {tb : Tb} {W : WX} {T : Act} {e : Expr} {f : EX} {pos : Pos}
theorem setRead {gt : TG} {bt : D → S → R S} (hgt : TgOk X.K tb T Any2 gt bt) : ∀ D σ H, tSt X.K tb W T (mSet bt f) D σ H → tAsg (tFr X.K tb W T f) gt D σ H := fun D σ H ⟨g, ρ, rl, h⟩ => ⟨g, ρ, rl, by
  unfold mSet at h
  cases e : f ρ with
  | ok d =>
    rw [e] at h
    intro v g' H' s fr
    cases e2 : bt d ρ with
    | ok ρ' =>
      simp only [e2] at h
      exact hgt g' ρ σ H' d v _ ρ' fr.rel e2 fun σ' r' _ => h g' σ' H' r' s.le
    | ex c => simp only [e2] at h; exact h.elim
    | no => simp only [e2] at h; exact h.elim
  | ex c =>
    rw [e] at h
    exact fun g' H' s => h g' σ H' s.rel s.le
  | no => rw [e] at h; exact h⟩
/-- name = e -/
theorem mAsg (i : Nat) {x : Str} {pos' : Pos} (he : PE X e (tFr X.K tb W T f)) (hN : X.N.Nodup) (hi : X.N[i]? = some x := by rfl) (hx : Loc X.env.scope x := by first | exact .inl rfl | exact .inr rfl)
    (hs : swapsWith e (some (.Name x pos')) pos.line X.env = pure false := by rfl) (hf : X.fn x = true ∨ X.env.scope.names.lookup x = some .local := by first | exact .inl rfl | exact .inr rfl | assumption) : PS X (.Assign [.Name x pos'] e pos) (tSt X.K tb W T (mSet (bName i) f)) :=
  ps_imp (ps_set hN hi hx he hs hf) (setRead (tgName i))
/-- name = [.. for ..] on one line -/
theorem mAsgLc (i : Nat) {y : Str} {py : Pos} {elt tg iter : Expr} {ifs : List Expr} {scope : Scope} {own : List (Str × Nat)} {pos spos : Pos} {gt : TG} {bt : D → S → R S} {tt : BX} {fe : EX} {fx : S → R (List D)} (hc : X.calm = true) (hN : X.N.Nodup)
    (hsw : swapsWith (.ListComp elt [⟨tg, iter, ifs, 0⟩] scope pos) (some (.Name y py)) spos.line X.env = pure true)
    (hi : PI X tg iter (tSrc X.K tb W T true fx)) (ok : BlkOk X.N X.env.scope scope own)
    (hg : ∀ (s : Shared) (H : Hp) (C : Addr) (cl : List (Str × Addr)) (fp : List Addr), PG (X.blk s H scope (compEnvC scope cl C X.env) fp) tg gt) (hgt : TgOk X.K tb T (Wp (own.map (·.2))) gt bt)
    (ht : ∀ (s : Shared) (H : Hp) (C : Addr) (cl : List (Str × Addr)) (fp : List Addr), PTs (X.blk s H scope (compEnvC scope cl C X.env) fp) ifs (tBx X.K tb W0 T tt))
    (he : ∀ (s : Shared) (H : Hp) (C : Addr) (cl : List (Str × Addr)) (fp : List Addr), PE (X.blk s H scope (compEnvC scope cl C X.env) fp) elt (tVl X.K tb W0 T fe)) (hy : X.N[i]? = some y := by rfl) (hyl : X.env.scope.names.lookup y = some .local := by rfl)
    (hs : ∀ x, foldedSetIterable iter X.env x = pure x := by intro _; rfl) :
    PS X (.Assign [.Name y py] (.ListComp elt [⟨tg, iter, ifs, 0⟩] scope pos) spos) (tSt X.K tb W T (mSet (bName i) (eLc (own.map (·.2)) bt tt fe fx))) :=
  ps_imp (ps_setLc hc hN hy hyl hsw hi ok hg ht he hs) fun D σ H h => lcRead hgt σ H _ (setRead (tgName i) D σ H h)
/-- a target of another form -/
theorem mAsgT {tg : Expr} {gt : TG} {bt : D → S → R S} (he : PE X e (tFr X.K tb W T f)) (hg : PG X tg gt) (hgt : TgOk X.K tb T Any2 gt bt) (hs : swapsWithSole [tg] e pos.line X.env = pure false := by rfl) (hw : swappedStores [tg] e X.env = pure none := by rfl)
    (h1 : (assignEach [tg] X.env).map (·.2) = [assign tg X.env] := by rfl) : PS X (.Assign [tg] e pos) (tSt X.K tb W T (mSet bt f)) := ps_imp (ps_asg he hg hs hw h1) (setRead hgt)
theorem mRetR (he : PE X e (tFr X.K tb W T f)) : PS X (.Return (some e) pos) (tSt X.K tb W T (mRet f)) := ps_imp (ps_ret he) fun D σ H ⟨g, ρ, rl, h⟩ => ⟨g, ρ, rl, by
  unfold mRet at h
  cases e : f ρ with
  | ok d =>
    rw [e] at h
    exact fun v g' H' s fr => h g' v H' fr.rel.ret s.le
  | ex c =>
    rw [e] at h
    exact fun g' H' s => h g' σ H' s.rel s.le
  | no => rw [e] at h; exact h⟩
theorem mRetNR : PS X (.Return none pos) (tSt X.K tb W T mRetN) := ps_imp ps_retN fun D σ H ⟨g, ρ, rl, h⟩ => h g .non H (rl.retSub (f := []) .non fun _ _ => List.nil_sublist _) .refl
/-- return of a name, with what it owns -/
theorem mRetVR (i : Nat) {x : Str} {p : Pos} (hN : X.N[i]? = some x := by rfl) (hv : Vis X.env.scope x := by first | exact Or.inl rfl | exact Or.inr (Or.inl rfl) | exact Or.inr (Or.inr rfl)) (hd : (x == ("__debug__" : Str)) = false := by decide)
    (hcd : (x == ("__classdict__" : Str)) = false := by decide) : PS X (.Return (some (.Name x p)) pos) (tSt X.K tb W T (mRetV i)) := ps_imp (ps_ret (pe_var hN hv hd hcd)) fun D σ H ⟨g, ρ, rl, h⟩ => by
  unfold mRetV at h
  split at h
  · rename_i d e
    obtain ⟨f1, f2, s1, _⟩ := id rl.ex
    obtain ⟨v, f', e1, rp, sb⟩ := s1.getSub e
    refine ⟨v, e1, h g v H (rl.retSub rp fun f3 s3 => ?_) .refl⟩
    have := s3.fp_det s1 fun _ _ _ h => h
    subst this
    exact sb
  · exact h.elim
theorem mDropR (he : PE X e (tPk X.K tb W T f)) (hs : swapsWith e none pos.line X.env = pure false := by rfl) : PS X (.Expr e pos) (tSt X.K tb W T (mDrop f)) := ps_imp (ps_expr he hs) fun D σ H ⟨g, ρ, rl, h⟩ => ⟨g, ρ, rl, by
  unfold mDrop at h
  cases e : f ρ with
  | ok d =>
    rw [e] at h
    exact fun v g' H' fp s rp => h g' σ H' s.rel s.le
  | ex c =>
    rw [e] at h
    exact fun g' H' s => h g' σ H' s.rel s.le
  | no => rw [e] at h; exact h⟩
theorem mIfR {c : Expr} {a b : List Stmt} {bc : BX} {fa fb : SM} (hc : PT X c (tBx X.K tb W T bc)) (ha : PSs X a (tSt X.K tb W T fa)) (hb : PSs X b (tSt X.K tb W T fb)) : PS X (.If c a b pos) (tSt X.K tb W T (mIf bc fa fb)) := ps_imp (ps_if hc ha hb) fun D σ H ⟨g, ρ, rl, h⟩ => ⟨g, ρ, rl, by
  unfold mIf at h
  cases e : bc ρ with
  | ok b =>
    rw [e] at h
    intro g' H' s
    cases b with
    | true =>
      rw [if_pos rfl]
      simp only [if_true] at h
      exact ⟨g', ρ, s.rel, h.le s.le⟩
    | false =>
      rw [if_neg Bool.false_ne_true]
      exact ⟨g', ρ, s.rel, OutP.le h s.le⟩
  | ex c =>
    rw [e] at h
    exact fun g' H' s => h g' σ H' s.rel s.le
  | no => rw [e] at h; exact h⟩
end

/-! ### loops -/
def forL (bt : D → S → R S) (body : SM) : List D → S → Out
  | [], ρ => .nx ρ
  | x :: r, ρ => match bt x ρ with
    | .ok ρ1 => (match body ρ1 with
      | .nx ρ2 => forL bt body r ρ2
      | .ct ρ2 => forL bt body r ρ2
      | .bk ρ2 => .nx ρ2
      | .rt d bx => .rt d bx
      | .ex c ρ2 => .ex c ρ2
      | .no => .no)
    | _ => .no
def mFor (fx : S → R (List D)) (bt : D → S → R S) (body : SM) : SM := fun ρ => match fx ρ with
  | .ok xs => forL bt body xs ρ
  | .ex c => .ex c ρ
  | .no => .no
def whileL (c : BX) (body : SM) : Nat → S → Out
  | 0, _ => .no
  | n + 1, ρ => match c ρ with
    | .ok b => if b = true then (match body ρ with
      | .nx ρ2 => whileL c body n ρ2
      | .ct ρ2 => whileL c body n ρ2
      | .bk ρ2 => .nx ρ2
      | .rt d bx => .rt d bx
      | .ex c ρ2 => .ex c ρ2
      | .no => .no) else .nx ρ
    | .ex e => .ex e ρ
    | .no => .no
def mWhile (n : Nat) (c : BX) (body : SM) : SM := whileL c body n
section
variable {X : Cx} {tb : Tb} {W : WX} {T : Act} {pos : Pos}
theorem mForR {tg iter : Expr} {body : List Stmt} {gt : TG} {bt : D → S → R S} {fx : S → R (List D)} {fb : SM} (hp : PassesOwn (model X.prog X.w) X.A X.env X.xe) (hc : X.calm = true) (hi : PI X tg iter (tSrc X.K tb W T false fx)) (hg : PG X tg gt) (hgt : TgOk X.K tb T Any2 gt bt)
    (hb : PSs X body (tSt X.K tb W T fb)) (hs : ∀ x, foldedSetIterable iter X.env x = pure x := by intro _; rfl) : PS X (.For tg iter body [] pos) (tSt X.K tb W T (mFor fx bt fb)) := ps_imp (ps_for hp hc hi hg hb hs) fun D σ H ⟨g, ρ, rl, h⟩ => ⟨g, ρ, rl, by
  unfold mFor at h
  cases e : fx ρ with
  | ex c =>
    rw [e] at h
    exact fun g' H' s => h g' σ H' s.rel s.le
  | no => rw [e] at h; exact h
  | ok xs =>
    rw [e] at h
    intro g1 H1 J s1 wk
    refine ⟨fun i m σ H => m = xs.length - i ∧ i ≤ xs.length ∧ ∃ g ρ, Rel X.K tb T g ρ σ H ∧ Le g1 H1 g H ∧ OutP X.K tb W T D g H (forL bt fb (xs.drop i) ρ), ⟨xs.length, rfl, Nat.zero_le _, g1, ρ, s1.rel, .refl, h.le s1.le⟩, ?_⟩
    rintro i m σ2 H2 ⟨rfl, hi, g2, ρ2, r2, l2, o2⟩
    obtain ⟨items, stop⟩ := wk g2 H2 l2 fun z => nomatch z
    by_cases c : i < xs.length
    · refine .inr ?_
      obtain ⟨go, yl⟩ := items i xs[i] (List.getElem?_eq_getElem c)
      rw [List.drop_eq_getElem_cons c] at o2
      unfold forL at o2
      refine ⟨go, fun σ H => ∃ g ρ, Rel X.K tb T g ρ σ H ∧ Le g1 H1 g H ∧ OutP X.K tb W T D g H (forL bt fb (xs.drop (i + 1)) ρ), fun σ' H' n => ⟨xs.length - (i + 1), by omega, rfl, c, n⟩, fun x H3 y => ?_⟩
      obtain ⟨g3, s3, r3⟩ := (yl x H3 y).step r2
      cases eb : bt xs[i] ρ2 with
      | ex c => simp only [eb] at o2; exact o2.elim
      | no => simp only [eb] at o2; exact o2.elim
      | ok ρ3 =>
        simp only [eb] at o2
        refine hgt g3 ρ2 σ2 H3 _ x _ ρ3 (s3.rel.pushF r3) eb fun σ' r' _ => ⟨g3, ρ3, r', ?_⟩
        cases ef : fb ρ3 with
        | nx ρ4 =>
          simp only [ef] at o2
          exact fun g' σ'' H' r l => ⟨g', ρ4, r, (l2.trans s3.le).trans l, o2.le (s3.le.trans l)⟩
        | ct ρ4 =>
          simp only [ef] at o2
          exact fun g' σ'' H' r l => ⟨g', ρ4, r, (l2.trans s3.le).trans l, o2.le (s3.le.trans l)⟩
        | bk ρ4 =>
          simp only [ef] at o2
          exact fun g' σ'' H' r l => o2 g' σ'' H' r (s3.le.trans l)
        | rt d bx =>
          simp only [ef] at o2
          exact fun g' v H' r l => o2 g' v H' r (s3.le.trans l)
        | ex c ρ4 =>
          simp only [ef] at o2
          exact fun g' σ'' H' r l => o2 g' σ'' H' r (s3.le.trans l)
        | no => simp only [ef] at o2; exact o2
    · have e : i = xs.length := by omega
      subst e
      rw [List.drop_length] at o2
      exact .inl ⟨stop, o2 g2 σ2 H2 r2 .refl⟩⟩
theorem mWhileR (n : Nat) {c : Expr} {body : List Stmt} {bc : BX} {fb : SM} (hp : PassesOwn (model X.prog X.w) X.A X.env X.xe) (hc : PT X c (tBx X.K tb W T bc)) (hb : PSs X body (tSt X.K tb W T fb)) : PS X (.While c body [] pos) (tSt X.K tb W T (mWhile n bc fb)) := ps_imp (ps_while hp hc hb) fun D σ H ⟨g, ρ, rl, h⟩ => by
  refine ⟨fun m σ H => ∃ g ρ, Rel X.K tb T g ρ σ H ∧ OutP X.K tb W T D g H (whileL bc fb m ρ), ⟨n, g, ρ, rl, h⟩, ?_⟩
  rintro m σ2 H2 ⟨g2, ρ2, r2, o2⟩
  refine ⟨g2, ρ2, r2, ?_⟩
  cases m with
  | zero => exact o2.elim
  | succ m =>
    unfold whileL at o2
    cases e : bc ρ2 with
    | ex c =>
      rw [e] at o2
      exact fun g' H' s => o2 g' σ2 H' s.rel s.le
    | no => rw [e] at o2; exact o2
    | ok b =>
      rw [e] at o2
      intro g' H' s
      cases b with
      | false => rw [if_neg Bool.false_ne_true]; exact o2 g' σ2 H' s.rel s.le
      | true =>
        rw [if_pos rfl]
        simp only [if_true] at o2
        refine ⟨fun σ H => ∃ g ρ, Rel X.K tb T g ρ σ H ∧ OutP X.K tb W T D g H (whileL bc fb m ρ), fun σ' H' n => ⟨m, Nat.lt_succ_self _, n⟩, g', ρ2, s.rel, ?_⟩
        cases ef : fb ρ2 with
        | nx ρ4 =>
          simp only [ef] at o2
          exact fun g'' σ'' H'' r l => ⟨g'', ρ4, r, o2.le (s.le.trans l)⟩
        | ct ρ4 =>
          simp only [ef] at o2
          exact fun g'' σ'' H'' r l => ⟨g'', ρ4, r, o2.le (s.le.trans l)⟩
        | bk ρ4 =>
          simp only [ef] at o2
          exact fun g'' σ'' H'' r l => o2 g'' σ'' H'' r (s.le.trans l)
        | rt d bx =>
          simp only [ef] at o2
          exact fun g'' v H'' r l => o2 g'' v H'' r (s.le.trans l)
        | ex c ρ4 =>
          simp only [ef] at o2
          exact fun g'' σ'' H'' r l => o2 g'' σ'' H'' r (s.le.trans l)
        | no => simp only [ef] at o2; exact o2
end
end Tm

set_option Elab.async false
set_option linter.all false
set_option maxRecDepth 100000
set_option maxHeartbeats 1000000
namespace Tm
open PySem L2

/-! ### a slot's own object is changed -/
section
variable {K : PySem.W.Frag} {tb : Tb} {T : Act} {g : Gh} {ρ : S} {σ : St} {H : Hp}
theorem SlR.split {sl : List (Option D)} {σ : St} {f : List Addr} (h : SlR K tb g H sl σ f) : ∀ {i : Nat} {d : D}, sl[i]? = some (some d) → ∃ v fa fd fb, f = fa ++ fd ++ fb ∧ σ[i]? = some (some v) ∧ Rep K tb g H d v fd ∧
    ∀ (g' : Gh) (H' : Hp) (d' : D) (fd' : List Addr), Le g H g' H' → (∀ a, a ∈ fa ∨ a ∈ fb → ∀ o, H a = some o → H' a = some o) → Rep K tb g' H' d' v fd' → SlR K tb g' H' (sl.set i (some d')) σ (fa ++ fd' ++ fb) := by
  induction h with
  | nil => intro i d e; simp at e
  | @no sl v0 σ f1 q ih =>
    intro i d e
    cases i with
    | zero => simp at e
    | succ i =>
      obtain ⟨v, fa, fd, fb, e1, e2, r, z⟩ := ih (i := i) (by simpa using e)
      exact ⟨v, fa, fd, fb, e1, by simpa using e2, r, fun g' H' d' fd' l k r' => .no (z g' H' d' fd' l k r')⟩
  | @so d0 sl v0 σ f0 f1 r0 q ih =>
    intro i d e
    cases i with
    | zero =>
      simp at e
      subst e
      exact ⟨v0, [], f0, f1, rfl, rfl, r0, fun g' H' d' fd' l k r' => SlR.so r' (q.stay l fun a m => k a (.inr m))⟩
    | succ i =>
      obtain ⟨v, fa, fd, fb, e1, e2, r, z⟩ := ih (i := i) (by simpa using e)
      refine ⟨v, f0 ++ fa, fd, fb, by rw [e1]; simp only [List.append_assoc], by simpa using e2, r, fun g' H' d' fd' l k r' => ?_⟩
      have := SlR.so (r0.stay l fun a m => k a (.inl (List.mem_append_left _ m))) (z g' H' d' fd' l (fun a m => k a (m.imp (List.mem_append_right _) id)) r')
      show SlR K tb g' H' (some d0 :: sl.set i (some d')) (some v0 :: σ) _
      rw [List.append_assoc, List.append_assoc, ← List.append_assoc fa fd' fb]
      exact this
/-- the object of slot i, where a new value d stands beside; what may stand in its place -/
theorem Rel.mutSlot {d : D} {v : V} (r : Rel K tb T g (ρ.push d) (some v :: σ) H) {i : Nat} {t : Tg} {xs : List D} (e : ρ.sl[i]? = some (some (.obj true t xs))) :
    ∃ a o vs f fd, σ[i]? = some (some (.ref a)) ∧ H a = some o ∧ HoOf tb t vs o ∧ Reps K tb g H xs vs f ∧ Rep K tb g H d v fd ∧ a ∉ fd ∧ a ∉ f ∧ ¬ g.Z a ∧
      ∀ (t' : Tg) (xs' : List D) (vs' : List V) (o' : HO) (f' k : List Addr), HoOf tb t' vs' o' → (Reps K tb g (upd H a o') xs' vs' f') → (f' ++ k).Perm (f ++ fd) →
        Rel K tb T g (ρ.set i (.obj true t' xs')) σ (upd H a o') ∧ Le g H g (upd H a o') := by
  obtain ⟨f1, f2, s1, s2, nd, g1, gm, nz⟩ := id r.ex
  obtain ⟨fd, f', rfl, rp, q⟩ : ∃ f f', f1 = f ++ f' ∧ Rep K tb g H d v f ∧ SlR K tb g H ρ.sl σ f' := by
    generalize hs : (ρ.push d).sl = sl at s1
    generalize hv : (some v :: σ) = σ1 at s1
    cases s1 with
    | nil => cases hv
    | no _ => cases hs
    | so r' q' => cases hs; cases hv; exact ⟨_, _, rfl, r', q'⟩
  obtain ⟨u, fa, fo, fb, rfl, e2, ro, z⟩ := q.split e
  generalize hd0 : D.obj true t xs = d0 at ro
  cases ro <;> cases hd0
  rename_i a vs o f ho hH rs
  -- the nodup facts
  have P1 : (fd ++ (fa ++ (a :: f) ++ fb) ++ f2).Perm (a :: (f ++ fd ++ (fa ++ fb ++ f2))) := by
    rw [List.perm_iff_count]
    intro x
    simp only [List.count_append, List.count_cons]
    omega
  have nd1 := P1.nodup_iff.mp nd
  rw [List.nodup_cons] at nd1
  have na : a ∉ f ++ fd ++ (fa ++ fb ++ f2) := nd1.1
  have nza : ¬ g.Z a := nz a (by simp)
  have Ga : T.G a := g1 a (by simp)
  refine ⟨a, o, vs, f, fd, e2, ho, hH, rs, rp, fun m => na (by simp [m]), fun m => na (by simp [m]), nza, fun t' xs' vs' o' f' k ho' rs' pm => ?_⟩
  have le : Le g H g (upd H a o') := ⟨⟨[], by simp⟩, fun _ z => z, fun b u z e => by
    rw [upd_ne (fun q => nza (by rw [← q]; exact z))]; exact e⟩
  have keep : ∀ b, b ≠ a → ∀ u, H b = some u → (upd H a o') b = some u := fun b n u e => by rw [upd_ne n]; exact e
  refine ⟨⟨⟨fa ++ (a :: f') ++ fb, f2, z g (upd H a o') (.obj true t' xs') (a :: f') le (fun b m u => keep b (fun q => na (by subst q; rcases m with m | m <;> simp [m])) u) (.own upd_same ho' rs'), s2.stay le fun b m u => keep b (fun q => na (by subst q; simp [m])) u, ?_, fun b m => ?_, gm, fun b m => ?_⟩, fun b zb => ?_, r.zg, fun b n => ?_, r.gn, r.pb⟩, le⟩
  · have P2 : ((fa ++ (a :: f') ++ fb ++ f2) ++ k).Perm (a :: (f ++ fd ++ (fa ++ fb ++ f2))) := by
      rw [List.perm_iff_count] at pm ⊢
      intro x
      have := pm x
      simp only [List.count_append, List.count_cons] at this ⊢
      omega
    have : ((fa ++ (a :: f') ++ fb ++ f2) ++ k).Nodup := P2.nodup_iff.mpr (List.nodup_cons.mpr nd1)
    exact (List.nodup_append.mp this).1
  · refine g1 b ?_
    simp only [List.mem_append, List.mem_cons] at m ⊢
    rcases m with (m | m | m) | m
    · exact .inr (.inl (.inl m))
    · exact .inr (.inl (.inr (.inl m)))
    · have : b ∈ f ++ fd := pm.mem_iff.mp (List.mem_append_left _ m)
      rcases List.mem_append.mp this with m | m
      · exact .inr (.inl (.inr (.inr m)))
      · exact .inl m
    · exact .inr (.inr m)
  · refine nz b ?_
    simp only [List.mem_append, List.mem_cons] at m ⊢
    rcases m with ((m | m | m) | m) | m
    · exact .inl (.inr (.inl (.inl m)))
    · exact .inl (.inr (.inl (.inr (.inl m))))
    · have : b ∈ f ++ fd := pm.mem_iff.mp (List.mem_append_left _ m)
      rcases List.mem_append.mp this with m | m
      · exact .inl (.inr (.inl (.inr (.inr m))))
      · exact .inl (.inl m)
    · exact .inl (.inr (.inr m))
    · exact .inr m
  · obtain ⟨u, q⟩ := r.zok b zb
    exact ⟨u, le.st b u zb q⟩
  · rw [upd_ne (fun q => n (by rw [q]; exact Ga))]
    exact r.fr b n
end

/-! ### x.append(e), x[i] = e, x[i][j] = e -/
def onSlot (i : Nat) (k : Bool → Tg → List D → R D) (ρ : S) : R D := match ρ.sl[i]? with
  | some (some (.obj o t xs)) => k o t xs
  | _ => .no
def appD (d : D) : Bool → Tg → List D → R D
  | true, .lst, xs => if xs.length < 16000000 then .ok (.obj true .lst (xs ++ [d])) else .no
  | _, _, _ => .no
def ownL (i : Nat) (ρ : S) : Bool := match ρ.sl[i]? with
  | some (some (.obj true .lst _)) => true
  | _ => false
def mApp (i : Nat) (f : EX) : SM := fun ρ => if ownL i ρ = true then (match f ρ with
  | .ok d => (match onSlot i (appD d) ρ with
    | .ok d' => .nx (ρ.set i d')
    | _ => .no)
  | .ex c => .ex c ρ
  | .no => .no) else .no
def putD (d j : D) : Bool → Tg → List D → R D
  | true, .lst, xs => (match j with
    | .int n => (match ixN xs.length n with
      | some m => .ok (.obj true .lst (xs.set m d))
      | none => .no)
    | _ => .no)
  | _, _, _ => .no
def mPut (i : Nat) (fj f : EX) : SM := fun ρ => if ownL i ρ = true then (match f ρ with
  | .ok d => (match fj ρ with
    | .ok j => (match onSlot i (putD d j) ρ with
      | .ok d' => .nx (ρ.set i d')
      | _ => .no)
    | .ex c => .ex c ρ
    | .no => .no)
  | .ex c => .ex c ρ
  | .no => .no) else .no
section
variable {K : PySem.W.Frag} {tb : Tb} {g g' : Gh} {H H' : Hp}
theorem Reps.setAt {xs : List D} {vs : List V} {f : List Addr} (h : Reps K tb g H xs vs f) : ∀ {m : Nat} {x : D}, xs[m]? = some x → ∃ u fa fx fb, f = fa ++ fx ++ fb ∧ vs[m]? = some u ∧ Rep K tb g H x u fx ∧
    (∀ (d : D) (v : V) (fd : List Addr) (g' : Gh) (H' : Hp), Le g H g' H' → (∀ a, a ∈ fa ∨ a ∈ fb → ∀ o, H a = some o → H' a = some o) → Rep K tb g' H' d v fd → Reps K tb g' H' (xs.set m d) (vs.set m v) (fa ++ fd ++ fb)) := by
  induction xs generalizing vs f with
  | nil => intro m x e; simp at e
  | cons y ys ih =>
    intro m x e
    cases h with
    | @cons _ v _ vs f f' r q =>
      cases m with
      | zero =>
        simp at e
        subst e
        exact ⟨v, [], f, f', rfl, rfl, r, fun d v' fd g' H' l k rd => .cons rd (q.stay l fun a m => k a (.inr m))⟩
      | succ m =>
        obtain ⟨u, fa, fx, fb, rfl, e2, r2, z⟩ := ih q (m := m) (by simpa using e)
        refine ⟨u, f ++ fa, fx, fb, by simp only [List.append_assoc], by simpa using e2, r2, fun d v' fd g' H' l k rd => ?_⟩
        have := Reps.cons (r.stay l fun a m => k a (.inl (List.mem_append_left _ m))) (z d v' fd g' H' l (fun a m => k a (m.imp (List.mem_append_right _) id)) rd)
        rw [List.append_assoc, List.append_assoc, ← List.append_assoc fa fd fb]
        exact this
end
theorem ownL_at {i : Nat} {ρ : S} (h : ownL i ρ = true) : ∃ xs, ρ.sl[i]? = some (some (.obj true .lst xs)) := by
  unfold ownL at h
  split at h
  · exact ⟨_, by assumption⟩
  · cases h
section
variable {X : Cx} {tb : Tb} {W : WX} {T : Act} {e j : Expr} {f fj : EX} {pos cpos apos p pp : Pos}
theorem mAppR (i : Nat) {x : Str} (he : PE X e (tFr X.K tb W T f)) (hN : X.N[i]? = some x := by rfl) (hv : Vis X.env.scope x := by first | exact Or.inl rfl | exact Or.inr (Or.inl rfl) | exact Or.inr (Or.inr rfl)) (hd : (x == ("__debug__" : Str)) = false := by decide)
    (hcd : (x == ("__classdict__" : Str)) = false := by decide) (hst : starEach [e] X.env = (false, eval e X.env) :: starEach [] X.env := by rfl)
    (hbase : attributeBase (.Name x p) "append" X.env (eval (.Name x p) X.env) = eval (.Name x p) X.env := by rfl)
    (hfew : ((backTo cpos (starEach (e :: []) X.env)).all (fun x => !x.1) && (backToKw cpos (keywordEach [] X.env)).all (fun x => x.1.isSome)
      && decide ((e :: []).length + ([] : List Keyword).length + (if ([] : List Keyword).isEmpty then 0 else 1) < 30)) = true := by rfl)
    (hline : (apos.endLine == cpos.line) = true := by rfl) (hplain : (backTo cpos (starEach [] X.env)).any (·.1) = false := by rfl)
    (hs : swapsWith (.Call (.Attribute (.Name x p) "append" apos) [e] [] cpos) none pos.line X.env = pure false := by rfl) :
    PS X (.Expr (.Call (.Attribute (.Name x p) "append" apos) [e] [] cpos) pos) (tSt X.K tb W T (mApp i f)) :=
  ps_imp (ps_expr (pe_bm PySem.F.plainAttrs_list PySem.F.slot_list_append PySem.F.type_list_append mt_append (pe_var hN hv hd hcd) (pa_cons he pa_nil hst) hbase hfew hline hst hplain) hs) fun D σ H ⟨g, ρ, rl, h⟩ => by
    unfold mApp at h
    split at h
    · rename_i ow
      obtain ⟨xs, e3⟩ := ownL_at ow
      obtain ⟨f1, f2, s1, _⟩ := id rl.ex
      obtain ⟨v0, f', e4, rp0, _⟩ := s1.get e3
      obtain ⟨a0, vs0, rfl, h0, _⟩ := rp0.isL
      refine ⟨_, e4, .inl ⟨rfl, vs0, .inl (.inl h0)⟩, g, ρ, rl, ?_⟩
      cases e1 : f ρ with
      | no => rw [e1] at h; exact h
      | ex c =>
        rw [e1] at h
        exact fun g' H' s => h g' σ H' s.rel s.le
      | ok d =>
        rw [e1] at h
        simp only [onSlot, e3, appD] at h
        split at h
        · rename_i d' hd'
          split at hd'
          · rename_i hl
            cases hd'
            intro v g' H' s fr
            obtain ⟨a, o, vs, fx, fd, e5, hH, ho, rs, rd, na1, na2, nz, upd'⟩ := fr.rel.mutSlot (ρ := ρ) e3
            cases (Option.some.inj (Option.some.inj (e4.symm.trans e5)))
            cases ho
            have le0 : ∀ o', Le g' H' g' (upd H' a0 o') := fun o' => ⟨⟨[], by simp⟩, fun _ z => z, fun b u z e => by
              rw [upd_ne (fun q => nz (by rw [← q]; exact z))]; exact e⟩
            have kp : ∀ o' b, b ≠ a0 → ∀ u, H' b = some u → (upd H' a0 o') b = some u := fun o' b n u e => by rw [upd_ne n]; exact e
            have rs2 := (rs.stay (le0 (.lst (vs ++ [v]))) fun b m => kp _ b fun q => na2 (by rw [← q]; exact m)).append (Reps.cons (rd.stay (le0 (.lst (vs ++ [v]))) fun b m => kp _ b fun q => na1 (by rw [← q]; exact m)) .nil)
            obtain ⟨r', l'⟩ := upd' .lst _ _ (.lst (vs ++ [v])) _ [] rfl rs2 (by simp)
            refine ⟨a0, vs, v, rfl, rfl, hH, ?_, h g' σ _ r' (s.le.trans l')⟩
            rw [← rs.length, sizeLine_eq]; omega
          · cases hd'
        · exact h.elim
    · exact h.elim
/-- x[j] = e -/
theorem mPutR (i : Nat) {x : Str} (he : PE X e (tFr X.K tb W T f)) (hj : PE X j (tVl X.K tb W T fj)) (hN : X.N[i]? = some x := by rfl) (hv : Vis X.env.scope x := by first | exact Or.inl rfl | exact Or.inr (Or.inl rfl) | exact Or.inr (Or.inr rfl)) (hd : (x == ("__debug__" : Str)) = false := by decide)
    (hcd : (x == ("__classdict__" : Str)) = false := by decide)
    (ha : ∀ v, assign (.Subscript (.Name x p) j pp) X.env v = (do
      let ov ← holding [v] (eval (.Name x p) X.env)
      let iv ← holding [v, ov] (eval j X.env)
      standAt pp
      holding [v, ov, iv] (setItem ov iv v)
      release [v, ov, iv] []) := by intro _; rfl) (hs : swapsWithSole [.Subscript (.Name x p) j pp] e pos.line X.env = pure false := by rfl) (hw : swappedStores [.Subscript (.Name x p) j pp] e X.env = pure none := by rfl)
    (h1 : (assignEach [.Subscript (.Name x p) j pp] X.env).map (·.2) = [assign (.Subscript (.Name x p) j pp) X.env] := by rfl) :
    PS X (.Assign [.Subscript (.Name x p) j pp] e pos) (tSt X.K tb W T (mPut i fj f)) :=
  ps_imp (ps_asg he (pg_sub (pe_var hN hv hd hcd) hj set_list ha) hs hw h1) fun D σ H ⟨g, ρ, rl, h⟩ => ⟨g, ρ, rl, by
    unfold mPut at h
    split at h
    · rename_i ow
      obtain ⟨xs, e3⟩ := ownL_at ow
      cases e1 : f ρ with
      | no => rw [e1] at h; exact h
      | ex c =>
        rw [e1] at h
        exact fun g' H' s => h g' σ H' s.rel s.le
      | ok d =>
        rw [e1] at h
        intro v g' H' s fr
        obtain ⟨f1, f2, s1, _⟩ := id rl.ex
        obtain ⟨v0, f', e4, rp0, _⟩ := s1.get e3
        obtain ⟨a0, vs0, rfl, h0, _⟩ := rp0.isL
        refine ⟨_, e4, g', ρ, s.rel, ?_⟩
        cases e2 : fj ρ with
        | no => simp only [e2] at h; exact h.elim
        | ex c =>
          simp only [e2] at h
          exact fun g2 H2 s2 => h g2 σ H2 s2.rel (s.le.trans s2.le)
        | ok jv =>
          simp only [e2, onSlot, e3, putD] at h
          intro vj g2 H2 s2 rj
          have fr2 := (s2.other fr.rel s.rel).rel
          obtain ⟨a, o, vs, fx, fd, e5, hH, ho, rs, rd, na1, na2, nz, upd'⟩ := Rel.mutSlot (ρ := ρ) fr2 e3
          cases (Option.some.inj (Option.some.inj (e4.symm.trans e5)))
          cases ho
          split at h
          · rename_i d' hd'
            split at hd'
            · rename_i n
              split at hd'
              · rename_i m hm
                cases hd'
                cases rj
                have hmx : m < xs.length := by
                  have := (ixN_seq hm).2.1
                  exact this
                obtain ⟨u, fa, fx', fb, rfl, e6, _, z⟩ := rs.setAt (List.getElem?_eq_getElem hmx)
                have le0 : ∀ o', Le g2 H2 g2 (upd H2 a0 o') := fun o' => ⟨⟨[], by simp⟩, fun _ z => z, fun b u z e => by
                  rw [upd_ne (fun q => nz (by rw [← q]; exact z))]; exact e⟩
                have kp : ∀ o' b, b ≠ a0 → ∀ u, H2 b = some u → (upd H2 a0 o') b = some u := fun o' b n u e => by rw [upd_ne n]; exact e
                have rs2 := z d v fd g2 (upd H2 a0 (.lst (vs.set m v))) (le0 _) (fun b mm => kp _ b fun q => na2 (by subst q; rcases mm with mm | mm <;> simp [mm])) (rd.stay (le0 _) fun b mm => kp _ b fun q => na1 (by rw [← q]; exact mm))
                obtain ⟨r', l'⟩ := upd' .lst _ _ (.lst (vs.set m v)) _ fx' rfl rs2 (by
                  rw [List.perm_iff_count]; intro x; simp only [List.count_append]; omega)
                refine ⟨a0, vs, n, m, rfl, rfl, hH, by rw [← rs.length]; exact hm, h g2 σ _ r' ((s.le.trans s2.le).trans l')⟩
              · cases hd'
            · cases hd'
          · exact h.elim
    · exact h.elim⟩
end
end Tm

set_option Elab.async false
set_option linter.all false
set_option maxRecDepth 100000
set_option maxHeartbeats 1000000
namespace Tm
open PySem L2
section
variable {K : PySem.W.Frag} {tb : Tb} {T : Act} {g : Gh} {ρ : S} {σ : St} {H : Hp}
/-- an own object somewhere within slot i is changed -/
theorem Rel.mutIn {d : D} {v : V} (r : Rel K tb T g (ρ.push d) (some v :: σ) H) {i : Nat} {d0 : D} (e : ρ.sl[i]? = some (some d0)) :
    ∃ u fo fd, σ[i]? = some (some u) ∧ Rep K tb g H d0 u fo ∧ Rep K tb g H d v fd ∧ (fo ++ fd).Nodup ∧ (∀ b ∈ fo, ¬ g.Z b) ∧
      ∀ b ∈ fo, ∀ (o' : HO) (d' : D) (fo' k : List Addr), Rep K tb g (upd H b o') d' u fo' → (fo' ++ k).Perm (fo ++ fd) →
        Rel K tb T g (ρ.set i d') σ (upd H b o') ∧ Le g H g (upd H b o') := by
  obtain ⟨f1, f2, s1, s2, nd, g1, gm, nz⟩ := id r.ex
  obtain ⟨fd, f', rfl, rp, q⟩ : ∃ f f', f1 = f ++ f' ∧ Rep K tb g H d v f ∧ SlR K tb g H ρ.sl σ f' := by
    generalize hs : (ρ.push d).sl = sl at s1
    generalize hv : (some v :: σ) = σ1 at s1
    cases s1 with
    | nil => cases hv
    | no _ => cases hs
    | so r' q' => cases hs; cases hv; exact ⟨_, _, rfl, r', q'⟩
  obtain ⟨u, fa, fo, fb, rfl, e2, ro, z⟩ := q.split e
  have P1 : (fd ++ (fa ++ fo ++ fb) ++ f2).Perm ((fo ++ fd) ++ (fa ++ fb ++ f2)) := by
    rw [List.perm_iff_count]
    intro x
    simp only [List.count_append]
    omega
  have nd1 := P1.nodup_iff.mp nd
  rw [List.nodup_append] at nd1
  obtain ⟨nd2, nd3, dj⟩ := nd1
  refine ⟨u, fo, fd, e2, ro, rp, nd2, fun b m => nz b (by simp [m]), fun a ma o' d' fo' k rn pm => ?_⟩
  have nza : ¬ g.Z a := nz a (by simp [ma])
  have Ga : T.G a := g1 a (by simp [ma])
  have na : ∀ b, b ∈ fa ++ fb ++ f2 → b ≠ a := fun b m q => dj a (List.mem_append_left _ ma) b m q.symm
  have le : Le g H g (upd H a o') := ⟨⟨[], by simp⟩, fun _ z => z, fun b u z e => by
    rw [upd_ne (fun q => nza (by rw [← q]; exact z))]; exact e⟩
  have keep : ∀ b, b ≠ a → ∀ u, H b = some u → (upd H a o') b = some u := fun b n u e => by rw [upd_ne n]; exact e
  refine ⟨⟨⟨fa ++ fo' ++ fb, f2, z g (upd H a o') d' fo' le (fun b m u => keep b (na b (by rcases m with m | m <;> simp [m])) u) rn, s2.stay le fun b m u => keep b (na b (by simp [m])) u, ?_, fun b m => ?_, gm, fun b m => ?_⟩, fun b zb => ?_, r.zg, fun b n => ?_, r.gn, r.pb⟩, le⟩
  · have P2 : ((fa ++ fo' ++ fb ++ f2) ++ k).Perm ((fo ++ fd) ++ (fa ++ fb ++ f2)) := by
      rw [List.perm_iff_count] at pm ⊢
      intro x
      have := pm x
      simp only [List.count_append] at this ⊢
      omega
    have : ((fa ++ fo' ++ fb ++ f2) ++ k).Nodup := P2.nodup_iff.mpr (List.nodup_append.mpr ⟨nd2, nd3, dj⟩)
    exact (List.nodup_append.mp this).1
  · refine g1 b ?_
    simp only [List.mem_append] at m ⊢
    rcases m with (m | m) | m
    · exact .inr (.inl (.inl m))
    · have : b ∈ fo ++ fd := pm.mem_iff.mp (List.mem_append_left _ m)
      rcases List.mem_append.mp this with m | m
      · exact .inr (.inl (.inr m))
      · exact .inl m
    · exact .inr (.inr m)
  · refine nz b ?_
    simp only [List.mem_append] at m ⊢
    rcases m with ((m | m) | m) | m
    · exact .inl (.inr (.inl (.inl m)))
    · have : b ∈ fo ++ fd := pm.mem_iff.mp (List.mem_append_left _ m)
      rcases List.mem_append.mp this with m | m
      · exact .inl (.inr (.inl (.inr m)))
      · exact .inl (.inl m)
    · exact .inl (.inr (.inr m))
    · exact .inr m
  · obtain ⟨u, q⟩ := r.zok b zb
    exact ⟨u, le.st b u zb q⟩
  · rw [upd_ne (fun q => n (by rw [q]; exact Ga))]
    exact r.fr b n
end
/-- x[j1][j] = e -/
def putIn (d j1 j : D) (xs : List D) : R D := match j1, j with
  | .int n1, .int n => (match ixN xs.length n1 with
    | some m1 => (match xs[m1]? with
      | some (.obj true .lst ys) => (match ixN ys.length n with
        | some m => .ok (.obj true .lst (xs.set m1 (.obj true .lst (ys.set m d))))
        | none => .no)
      | _ => .no)
    | none => .no)
  | _, _ => .no
def mPut2 (i : Nat) (f1 fj f : EX) : SM := fun ρ => match ρ.sl[i]? with
  | some (some (.obj true .lst xs)) => (match f ρ, f1 ρ, fj ρ with
    | .ok d, .ok j1, .ok j => (match putIn d j1 j xs with
      | .ok d' => .nx (ρ.set i d')
      | _ => .no)
    | _, _, _ => .no)
  | _ => .no
section
variable {X : Cx} {tb : Tb} {W : WX} {T : Act} {e j j1 : Expr} {f fj f1 : EX} {pos p p1 pp : Pos}
theorem mPut2R (i : Nat) {x : Str} (he : PE X e (tFr X.K tb W T f)) (hj1 : PE X j1 (tVl X.K tb W T f1)) (hj : PE X j (tVl X.K tb W T fj)) (hN : X.N[i]? = some x := by rfl) (hv : Vis X.env.scope x := by first | exact Or.inl rfl | exact Or.inr (Or.inl rfl) | exact Or.inr (Or.inr rfl)) (hd : (x == ("__debug__" : Str)) = false := by decide)
    (hcd : (x == ("__classdict__" : Str)) = false := by decide) (hpl : PlainIx j1 := by intro _ _; rfl)
    (ha : ∀ v, assign (.Subscript (.Subscript (.Name x p) j1 p1) j pp) X.env v = (do
      let ov ← holding [v] (eval (.Subscript (.Name x p) j1 p1) X.env)
      let iv ← holding [v, ov] (eval j X.env)
      standAt pp
      holding [v, ov, iv] (setItem ov iv v)
      release [v, ov, iv] []) := by intro _; rfl) (hs : swapsWithSole [.Subscript (.Subscript (.Name x p) j1 p1) j pp] e pos.line X.env = pure false := by rfl) (hw : swappedStores [.Subscript (.Subscript (.Name x p) j1 p1) j pp] e X.env = pure none := by rfl)
    (h1 : (assignEach [.Subscript (.Subscript (.Name x p) j1 p1) j pp] X.env).map (·.2) = [assign (.Subscript (.Subscript (.Name x p) j1 p1) j pp) X.env] := by rfl) :
    PS X (.Assign [.Subscript (.Subscript (.Name x p) j1 p1) j pp] e pos) (tSt X.K tb W T (mPut2 i f1 fj f)) :=
  ps_imp (ps_asg he (pg_sub (pe_ix ix_list (pe_var hN hv hd hcd) hj1 hpl) hj set_list ha) hs hw h1) fun D σ H ⟨g, ρ, rl, h⟩ => ⟨g, ρ, rl, by
    unfold mPut2 at h
    split at h
    · rename_i xs e3
      split at h
      · rename_i d j1v jv e1 e2 e2'
        rw [e1]
        intro v g' H' s fr
        obtain ⟨f1', f2', s1, _⟩ := id rl.ex
        obtain ⟨v0, f', e4, rp0, _⟩ := s1.get e3
        unfold putIn at h
        split at h
        · rename_i d' hd'
          split at hd'
          · rename_i n1 n
            split at hd'
            · rename_i m1 hm1
              split at hd'
              · rename_i ys hys
                split at hd'
                · rename_i m hm
                  cases hd'
                  have hm1x : m1 < xs.length := (ixN_seq hm1).2.1
                  have hmy : m < ys.length := (ixN_seq hm).2.1
                  -- the outer list, its place
                  refine ⟨v0, e4, g', ρ, s.rel, ?_⟩
                  rw [e2]
                  intro vj1 g2 H2 s2 rj1
                  cases rj1
                  have rp2 := s2.rep (s.rep rp0)
                  obtain ⟨a0, vs0, rfl, h0, rs0⟩ := rp2.isL
                  obtain ⟨u0, fu, eu, ru, _⟩ := rs0.get hys
                  obtain ⟨b0, ws0, rfl, hb0, _⟩ := ru.isL
                  refine ⟨a0, vs0, n1, .ref b0, rfl, rfl, .inl (.inl h0), ?_, g2, ρ, s2.rel, ?_⟩
                  · unfold L2.atI
                    rw [← rs0.length, hm1]
                    exact eu
                  · rw [e2']
                    intro vj g3 H3 s3 rj
                    cases rj
                    have fr3 := ((s2.trans s3).other fr.rel s.rel).rel
                    obtain ⟨u, fo, fd, e5, ro, rd, nd, nz, up⟩ := Rel.mutIn (ρ := ρ) fr3 e3
                    cases (Option.some.inj (Option.some.inj (e4.symm.trans e5)))
                    cases ro
                    rename_i vs3 o3 f3 ho3 rs3 h3
                    cases ho3
                    obtain ⟨u3, fa, fx, fb, rfl, eu3, ru3, z3⟩ := rs3.setAt hys
                    -- the inner list stands where it stood
                    have hv3 : vs3 = vs0 := by
                      have := s3.ext _ _ h0
                      rw [h3] at this
                      cases this; rfl
                    subst hv3
                    rw [eu] at eu3
                    cases eu3
                    cases ru3
                    rename_i w3 ob3 g3' hob3 rw3 hb3
                    cases hob3
                    obtain ⟨y0, ya, yx, yb, rfl, ey, _, zy⟩ := rw3.setAt (List.getElem?_eq_getElem hmy)
                    have nzb : ¬ g3.Z b0 := nz b0 (by simp)
                    have ndl : b0 ≠ a0 ∧ (∀ q ∈ fa ++ fb, q ≠ b0) ∧ (∀ q ∈ ya ++ yb, q ≠ b0) ∧ ∀ q ∈ fd, q ≠ b0 := by
                      have c := List.nodup_iff_count.mp nd b0
                      simp only [List.count_append, List.count_cons, beq_self_eq_true, if_true] at c
                      refine ⟨fun q => ?_, fun q m e => ?_, fun q m e => ?_, fun q m e => ?_⟩
                      · subst q; simp at c; omega
                      · subst e
                        have := List.count_pos_iff.mpr m
                        rw [List.count_append] at this
                        omega
                      · subst e
                        have := List.count_pos_iff.mpr m
                        rw [List.count_append] at this
                        omega
                      · subst e
                        have := List.count_pos_iff.mpr m
                        omega
                    obtain ⟨d1, d2, d3, d4⟩ := ndl
                    have le0 : ∀ o', Le g3 H3 g3 (upd H3 b0 o') := fun o' => ⟨⟨[], by simp⟩, fun _ z => z, fun b u z e => by
                      rw [upd_ne (fun q => nzb (by rw [← q]; exact z))]; exact e⟩
                    have kp : ∀ o' b, b ≠ b0 → ∀ u, H3 b = some u → (upd H3 b0 o') b = some u := fun o' b n u e => by rw [upd_ne n]; exact e
                    have inner := zy d v fd g3 (upd H3 b0 (.lst (w3.set m v))) (le0 _) (fun q mm => kp _ q (d3 q (by rcases mm with mm | mm <;> simp [mm]))) (rd.stay (le0 _) fun q mm => kp _ q (d4 q mm))
                    have outer := z3 (.obj true .lst (ys.set m d)) (.ref b0) _ g3 (upd H3 b0 (.lst (w3.set m v))) (le0 _) (fun q mm => kp _ q (d2 q (by rcases mm with mm | mm <;> simp [mm]))) (.own upd_same rfl inner)
                    have hvs : vs3.set m1 (.ref b0) = vs3 := by
                      refine List.ext_getElem? fun q => ?_
                      by_cases hq : m1 = q
                      · subst hq
                        rw [List.getElem?_set_self (by rw [← rs3.length]; exact hm1x), eu]
                      · rw [List.getElem?_set_ne hq]
                    rw [hvs] at outer
                    obtain ⟨r', l'⟩ := up b0 (by simp) (.lst (w3.set m v)) (.obj true .lst (xs.set m1 (.obj true .lst (ys.set m d)))) _ yx (.own (kp _ a0 (Ne.symm d1) _ h3) rfl outer) (by
                      rw [List.perm_iff_count]; intro x; simp only [List.count_append, List.count_cons]; omega)
                    refine ⟨b0, w3, n, m, rfl, rfl, hb3, ?_, h g3 σ _ r' (((s.le.trans s2.le).trans s3.le).trans l')⟩
                    rw [← rw3.length]; exact hm
                · cases hd'
              · cases hd'
            · cases hd'
          · cases hd'
        · exact h.elim
      · exact h.elim
    · exact h.elim⟩
end
end Tm

set_option Elab.async false
set_option linter.all false
set_option maxRecDepth 100000
set_option maxHeartbeats 1000000
namespace Tm
open PySem L2 PyProof.Rows

/-! ### short names -/
abbrev eF (f : EX) : EX := fun ρ => (f ρ).bind fun d => if d.isF then .ok d else .no
abbrev eFz (f : EX) : EX := fun ρ => (f ρ).map D.frz

/-! ### repetition -/
def dRepT : D → D → Option D
  | .tup xs, .int k => if xs ≠ [] ∧ 2 ≤ k ∧ k ≤ 1000 ∧ xs.length ≤ 1000 then some (.tup (List.replicate k.toNat xs).flatten) else none
  | _, _ => none
def dRepL : D → D → Option D
  | .obj _ .lst xs, .int k => if isFL xs = true ∧ 0 ≤ k ∧ k ≤ 1000 ∧ xs.length ≤ 1000 then some (.obj true .lst (List.replicate k.toNat xs).flatten) else none
  | _, _ => none
theorem Reps.rpt {K : PySem.W.Frag} {tb : Tb} {g : Gh} {H : Hp} {xs : List D} {vs : List V} (h : Reps K tb g H xs vs []) : ∀ n, Reps K tb g H (List.replicate n xs).flatten (List.replicate n vs).flatten []
  | 0 => .nil
  | n + 1 => by
    rw [List.replicate_succ, List.replicate_succ, List.flatten_cons, List.flatten_cons]
    exact h.append (h.rpt n)
section
variable {X : Cx} {tb : Tb} {W : WX} {T : Act} {a b : Expr} {fa fb : EX} {pos : Pos}
theorem vRepT (ha : PE X a (tPk X.K tb W T fa)) (hb : PE X b (tPk X.K tb W T fb)) : PE X (.BinOp a .Mult b pos) (tVl X.K tb W T (eB2 dRepT fa fb)) := pe_imp (pe_op op_repT ha hb) (tOp_vl (by
  intro ρ σ g H x y vx vy fx fy d Q rl rx ry e k
  unfold dRepT at e
  split at e
  · rename_i xs kk
    split at e
    · rename_i c
      cases e
      cases ry
      obtain ⟨p, vs, rfl, sl, q⟩ := rx.isT
      have hl : xs.length = vs.length := q.length
      refine ⟨p, kk, vs, rfl, rfl, sl, fun z => c.1 (List.length_eq_zero_iff.mp (by rw [hl, z]; rfl)), c.2.1, c.2.2.1, hl ▸ c.2.2.2, fun l hn => ?_⟩
      obtain ⟨st, rp⟩ := rl.newT hn (q.rpt kk.toNat)
      exact k _ _ _ st rp
    · cases e
  · cases e))
theorem fRepL (ha : PE X a (tPk X.K tb W T fa)) (hb : PE X b (tPk X.K tb W T fb)) : PE X (.BinOp a .Mult b pos) (tFr X.K tb W T (eB2 dRepL fa fb)) := pe_imp (pe_op op_rep ha hb) (tOp_fr (by
  intro ρ σ g H x y vx vy fx fy d Q rl rx ry e k
  unfold dRepL at e
  split at e
  · rename_i ow xs kk
    split at e
    · rename_i c
      cases e
      cases ry
      obtain ⟨p, vs, rfl, sl, q⟩ := rx.isL
      have hl : xs.length = vs.length := q.length
      refine ⟨p, kk, vs, rfl, rfl, sl, by omega, by omega, ?_, fun l hn => ?_⟩
      · have a1 : vs.length * kk.toNat ≤ 1000 * 1000 := Nat.mul_le_mul (hl ▸ c.2.2.2) (by omega)
        rw [sizeLine_eq]; omega
      · obtain ⟨st, rl'⟩ := rl.newL hn (t := .lst) rfl ((q.nof c.1).rpt kk.toNat)
        exact k _ _ _ st rl'
    · cases e
  · cases e))

/-! ### repr of data, where nothing is being shown around -/
def dRepr : List D → Option D
  | [x] => match seqD x, x.py with
    | some _, some p => if p.showable = true ∧ p.hasDict = false ∧ p.depth ≤ 30 ∧ p.shown.length ≤ sizeLine then some (.str p.shown) else none
    | _, _ => none
  | _ => none
def rShow (K : PySem.W.Frag) : List V → Hp → VK → Prop := fun xs H Q => ∃ a p, xs = [.ref a] ∧ Dp K H (.ref a) p ∧ p.showable = true ∧ p.hasDict = false ∧ p.depth ≤ 30 ∧ p.shown.length ≤ sizeLine ∧ Q (.str p.shown) H
theorem call_show (hg : X.A.guards = some []) (hu : X.A.units + 64 < cLine) : CallR X (.builtin "repr") (rShow X.K) := by
  rintro pins s σ H xs us Q I rv ⟨a, p, rfl, dp, c1, c2, c3, c4, q⟩
  obtain ⟨u, rfl, ru⟩ := vals1 rv
  obtain rfl : u = Value.ref a := ru
  obtain ⟨as, rd⟩ := dp.reads I p _ _ rfl
  exact repr_of_reads' rd c1 (PyData.noDict_hsm c2) hg (by omega) (fun _ _ e => e) (fun h' u tk keep => ⟨.str p.shown, H, I.kept keep, ⟨u, rfl⟩, q⟩) c4
theorem vRepr (hg' : X.A.guards = some []) (hu : X.A.units + 64 < cLine) {es : List Expr} {fs : AX} {p : Pos} (hm : X.mg "repr" = none) (ha : PA X (a :: es) (tAp X.K tb W T fs)) (hg : Gl X "repr" := by rfl)
    (he : starEach (a :: es) X.env = (false, eval a X.env) :: starEach es X.env := by rfl) (hpl : (backTo pos (starEach es X.env)).any (·.1) = false := by rfl) : PE X (.Call (.Name "repr" p) (a :: es) [] pos) (tVl X.K tb W T (eC dRepr fs)) :=
  pe_imp (pe_callB (call_show hg' hu) hg hm (by decide +kernel) ha (he := he) (hpl := hpl)) (tCB_vl (by
    intro ρ σ g H ds vs fp d Q rl rs e k
    unfold dRepr at e
    split at e
    · rename_i x
      split at e
      · rename_i xs pd z1 z2
        split at e
        · rename_i c
          cases e
          obtain ⟨v, rfl, r⟩ := rs.one
          obtain ⟨ad, ws, f', rfl, _, _⟩ := r.seq z1
          exact ⟨ad, pd, rfl, r.dp x _ _ pd z2, c.1, c.2.1, c.2.2.1, c.2.2.2, k _ g H (.refl rl) (.str _)⟩
        · cases e
      · cases e
    · cases e))
end
end Tm

set_option Elab.async false
set_option linter.all false
set_option maxRecDepth 100000
set_option maxHeartbeats 1000000
namespace Tm
open PySem PySem.Spec PyProof.Rows L2

/-! ### the law's own def is entered where nothing is being shown -/
/-- what the def of the law promises of its one entry -/
def EntA (P : Program) (w : World) (K : PySem.W.Frag) (mg : Str → Option Value) (base : Heap) (f : Addr) (fd : FuncData) (x : Str) (ok : Addr → Hp → Prop) : Prop :=
  ∀ (s : Shared) (H : Hp) (a : Addr), Env0 P w K mg base callerA [] s H → BindsTo s fd ⟨[.ref a], []⟩ [(x, .ref a)] → ok a H →
    codeAny (model P w) callerA (.call (.ref f) ⟨[.ref a], []⟩) (CR (L2.CX P w) [] P w H s (fun v _ => v = .bl true) fun _ _ _ => False) s
section
variable {P : Program} {w : World} {K : PySem.W.Frag} {mg : Str → Option Value} {base : Heap}
theorem entA_mk {x qual : Str} {st : Stmt} {f : Addr} {fd : FuncData} {N : List Str} {p : Str} {k : Nat} {ok : Addr → Hp → Prop} (F : Fun K x qual st f fd) (Sc : FnScope N [p] (defScope st)) (hr : Room (k + 1) callerA)
    (body : ∀ (cdv : Value) (s : Shared) (H : Hp) (a : Addr), ok a H → ∃ t, PSs (cxOf (L2.CX P w) P w K mg base N qual (defScope st) f cdv callerA [] s H fun _ _ _ => False) (defBody st) t ∧
      t { nx := fun _ _ => False, rt := fun v _ => v = .bl true } (L2.start N [.ref a]) H) : EntA P w K mg base f fd p ok := by
  intro s H a env bind h
  obtain ⟨oc, od, kV, doc, pm, an, cdv, ct, osl, rfl, look, code⟩ := F.ex
  have stay : ∀ b o, base.get? b = some o → s.heap.get? b = some o := fun b o e => (env.bs b o e).1
  have inS : K.In s.heap := env.mod.kin.keeps stay
  have nolim : s.heap.NoLimit := env.mod.nolimit.keeps stay
  have kinds : ∀ y ∈ [p].zip [Value.ref a], (defScope st).names.lookup y.1 = some .local ∨ ((defScope st).names.lookup y.1 = some .cell ∧ ((cellsFrom (s.heap.objs.size + 1) (defScope st).names []).lookup y.1).isSome = true) := by
    rintro ⟨n, v⟩ hy
    exact (Sc.par n (List.of_mem_zip hy).1).imp id fun q => ⟨q, PySem.W.cellsFrom_some _ _ _ (.inl q)⟩
  refine codeAny_call_function hr.depth (inS _ _ look) rfl Sc.co Sc.gen rfl (PySem.W.codeRec_of inS code) (bind _ _ _ _ ?_)
  refine wpAny_newFunctionEnv_cells Sc.kind kinds ?_
  rintro env1 rfl s1 fresh
  refine ⟨nolim.keeps fresh.toInCall.keep, codeAny_func ?_⟩
  obtain ⟨t, red, val⟩ := body cdv s H a h
  have inv := inv_start (CX := L2.CX P w) (E := fun _ _ _ => False) (vs := [V.ref a]) Sc hr.hd env rfl (.cons rfl .nil) fresh
  refine wpAny_mono (red.run [] s1 _ H _ inv val) (fun fl s' r => ?_) fun _ _ z => z
  cases fl with
  | ret u =>
    obtain ⟨v, σ', H', J, rv, q⟩ := r
    exact ⟨v, H', J.os, J.bare, J.base, J.hok, rv, q⟩
  | next =>
    obtain ⟨_, _, _, q⟩ := r
    exact q.elim
  | brk =>
    obtain ⟨_, _, _, q⟩ := r
    exact q.elim
  | cont =>
    obtain ⟨_, _, _, q⟩ := r
    exact q.elim
end

/-- the heap in which the script alone may be tracked -/
def onlyS (K : PySem.W.Frag) (a : Addr) (vs : List Value) (ns : List Int) : Hp := fun b => match K.lookup a with
  | some _ => none
  | none => if b = a then some (.frz { cls := .type "list", data := .seq vs.toArray } (.lst (ns.map V.int))) else none
theorem onlyS_at {K : PySem.W.Frag} {a b : Addr} {vs : List Value} {ns : List Int} {u : HO} (h : onlyS K a vs ns b = some u) : b = a ∧ K.lookup a = none ∧ u = .frz { cls := .type "list", data := .seq vs.toArray } (.lst (ns.map V.int)) := by
  unfold onlyS at h
  cases e : K.lookup a with
  | some o => rw [e] at h; cases h
  | none =>
    rw [e] at h
    by_cases c : b = a
    · simp only [c, if_true] at h
      exact ⟨c, rfl, (Option.some.inj h).symm⟩
    · simp only [c, if_false] at h
      cases h
theorem top_run {P : Program} {w : World} {K : PySem.W.Frag} {mg mb : Str → Option Value} {fa a : Addr} {fd : FuncData} {x : Str} {s : Shared} {vs : List Value} {ns : List Int} {ok : Addr → Hp → Prop}
    (inS : K.In s.heap) (glob : s.heap.Ns mainGlobals mg) (blts : s.heap.Ns builtinsNs mb) (boot : ∀ x : Str, x ≠ "__name__" → mb x = bootBuiltins x) (nolim : s.heap.NoLimit) (noGen : s.gens = #[])
    (obj : s.heap.get? a = some { cls := .type "list", data := .seq vs.toArray }) (hints : IntsAre vs ns) (short : ns.length ≤ sizeLine)
    (F : ∀ base : Heap, K.In base → base.Ns mainGlobals mg → EntA P w K mg base fa fd x ok) (bind : ∀ (s : Shared) (u : Value), BindsTo s fd ⟨[u], []⟩ [(x, u)])
    (good : ∀ H : Hp, SqL K H a (ns.map V.int) → ok a H) :
    codeAny (model P w) callerA (.call (.ref fa) ⟨[.ref a], []⟩) (fun r s' => r = .ok (.ret (.bool true)) ∧ OldK s.heap s'.heap ∧ s'.os = s.os ∧ AllBare s'.gens) s := by
  have rv := vals_ints hints
  have len := hints.length
  generalize hH : onlyS K a vs ns = H
  have at' : ∀ {b : Addr} {u : HO}, H b = some u → b = a ∧ K.lookup a = none ∧ u = .frz { cls := .type "list", data := .seq vs.toArray } (.lst (ns.map V.int)) := fun {b u} z => onlyS_at (hH ▸ z)
  have sq : SqL K H a (ns.map V.int) := by
    cases e : K.lookup a with
    | none =>
      refine .inl (.inr ⟨{ cls := .type "list", data := .seq vs.toArray }, ?_⟩)
      rw [← hH]
      unfold onlyS
      rw [e]
      exact if_pos rfl
    | some o =>
      have o' := inS a o e
      rw [obj] at o'
      cases o'
      exact .inr ⟨_, vs.toArray, _, e, rfl, rfl, rfl, by rw [List.size_toArray, len]; exact short, by simpa using rv⟩
  have hok : HOk P w H s.heap := fun b u z => by
    obtain ⟨rfl, _, rfl⟩ := at' z
    exact ⟨obj, by rw [List.length_map]; exact short, vs, _, rv, obj⟩
  have away : ∀ {b : Addr} {o : Obj}, s.heap.get? b = some o → H b = none → (hidT s.heap H).get? b = some o := fun e n => hidT_get e n
  have dictFree : ∀ {b : Addr} {o : Obj} {es : Array DictEntry} {ep : Nat}, s.heap.get? b = some o → o.data = .dict es ep → H b = none := fun {b o es ep} e d => by
    cases q : H b with
    | none => rfl
    | some u =>
      obtain ⟨rfl, _, _⟩ := at' q
      rw [obj] at e
      cases e
      exact absurd (d : Data.seq vs.toArray _ = Data.dict es ep) (by intro z; cases z)
  have nsT : ∀ {b : Addr} {m : Str → Option Value}, s.heap.Ns b m → (hidT s.heap H).Ns b m := fun {b m} ⟨o, es, ep, e, d, r⟩ => ⟨o, es, ep, away e (dictFree e d), d, r⟩
  have inT : K.In (hidT s.heap H) := fun b o e => away (inS b o e) (by
    cases q : H b with
    | none => rfl
    | some u =>
      obtain ⟨rfl, k, _⟩ := at' q
      rw [k] at e
      cases e)
  have env : Env0 P w K mg (hidT s.heap H) callerA [] s H := ⟨rfl, ⟨inT, nsT glob, ⟨mb, nsT blts, boot⟩, let ⟨mc, h1, h2⟩ := nolim; ⟨mc, nsT h1, h2⟩⟩, fun b o e => of_hidT e, Nat.le_of_eq (hidT_size _ _), trivial, (fun b hb => nomatch hb), hok, .of_eq noGen⟩
  refine codeAny_mono (F _ inT (nsT glob) s H a env (bind s (.ref a)) (good H sq)) ?_
  rintro (e | fl) s' h
  · obtain ⟨_, _, _, _, _, _, _, _, _, _, _, _, z⟩ := h
    exact z.elim
  · cases fl with
    | next => exact False.elim h
    | brk => exact False.elim h
    | cont => exact False.elim h
    | ret u =>
      obtain ⟨v, H', os, bare, un, hok', r', q⟩ := h
      obtain rfl : v = .bl true := q
      obtain rfl : u = Value.bool true := r'
      refine ⟨rfl, OldK.of_keep fun b o e => ?_, os, bare⟩
      cases q : H b with
      | none => exact un.keep b o e q (fun z => nomatch z) (fun z => nomatch z)
      | some u =>
        obtain ⟨rfl, _, rfl⟩ := at' q
        obtain ⟨e1, _⟩ := hok b _ q
        obtain ⟨e2, _⟩ := hok' b _ (un.frzs b _ _ q)
        rw [e] at e1
        cases e1
        exact e2
/-- the head's goal, from the promise of the law's def -/
theorem walk_top {l : PySem.W.OpenLaw} {n : Nat} {q : Program} {loose : List Str} {XP : (Str → Option Value) → Heap → Prop} {YP : World → Heap → Prop} {d : DefRec} {K : Params → PySem.W.Frag} {x : Str} {ok : PySem.W.Frag → Addr → Hp → Prop}
    (hn : l.most = some n) (hn2 : n ≤ sizeLine) (hdf : d.params.defaults = []) (hY : ∀ (w : World) (h : Heap), YP w h → (K w.params).In h)
    (F : ∀ (w : World) (mg : Str → Option Value) (fa : Addr) (h : Heap), (K w.params).In h → h.Ns mainGlobals mg → mg d.name = some (.ref fa) →
      ∃ fd : FuncData, (∀ (s : Shared) (u : Value), BindsTo s fd ⟨[u], []⟩ [(x, u)]) ∧ ∀ base : Heap, (K w.params).In base → base.Ns mainGlobals mg → EntA l.prog w (K w.params) mg base fa fd x (ok (K w.params)))
    (good : ∀ (K : PySem.W.Frag) (H : Hp) (a : Addr) (ns : List Int), ns.length ≤ n → SqL K H a (ns.map V.int) → ok K a H) :
    PySem.W.WalkO q loose XP YP l.row.toRowW d [] (fun f vs => PySem.call f vs) :=
  Att.attach_call hn hdf fun w _ s₁ mg mb fa _ _ _ _ a vs ns G Y _ _ _ hmg obj hints len noGen => by
    have inS := hY w _ Y
    obtain ⟨fd, bind, F'⟩ := F w mg fa _ inS G.T.g hmg
    exact top_run inS G.T.g G.T.b G.T.builtins G.T.nolimit noGen obj hints (Nat.le_trans len hn2) F' bind fun H => good _ H a ns len
/-- the body of the law's def, from plain data -/
theorem ent_of {P : Program} {w : World} {K : PySem.W.Frag} {mg : Str → Option Value} {base : Heap} {tb : Tb} {x qual : Str} {st : Stmt} {f : Addr} {fd : FuncData} {N : List Str} {p : Str} {k n : Nat} {body : SM} (F : Fun K x qual st f fd) (Sc : FnScope N [p] (defScope st)) (hr : Room (k + 1) callerA)
    (red : ∀ (cdv : Value) (s : Shared) (H : Hp) (T : Act), Room k (callerA.deeper (envOfC qual (defScope st) s.heap.objs.size f cdv)) → (callerA.deeper (envOfC qual (defScope st) s.heap.objs.size f cdv)).guards = some [] →
      Takes (cxOf (L2.CX P w) P w K mg base N qual (defScope st) f cdv callerA [] s H fun _ _ _ => False) (fun cls d _ H => False) → (∀ c, c = cxOf (L2.CX P w) P w K mg base N qual (defScope st) f cdv callerA [] s H (fun _ _ _ => False) → PassesOwn (model c.prog c.w) c.A c.env c.xe) →
      PSs (cxOf (L2.CX P w) P w K mg base N qual (defScope st) f cdv callerA [] s H fun _ _ _ => False) (defBody st) (tSt K tb (fun cls d _ H => False) T body))
    (val : ∀ ns : List Int, ns.length ≤ n → fnP N.length body [.obj false .rol (ns.map D.int)] [] = .ok (.bl true)) :
    EntA P w K mg base f fd p fun a H => ∃ ns : List Int, ns.length ≤ n ∧ SqL K H a (ns.map V.int) := by
  refine entA_mk F Sc hr fun cdv s H a h => ?_
  obtain ⟨ns, hl, sq⟩ := h
  refine ⟨_, red cdv s H ⟨H, fun a => H a = none, fun b => b = a ∧ ∃ o, H a = some o, false, []⟩ (hr.deeper _) rfl (takes_of rfl rfl rfl rfl) (fun c e => e ▸ passes_of rfl), ⟨[], fun b => b = a ∧ ∃ o, H a = some o⟩, ⟨[.obj false .rol (ns.map D.int)].map some ++ List.replicate (N.length - 1) none, []⟩, ?_, ?_⟩
  · have items : Reps K tb ⟨[], fun b => b = a ∧ ∃ o, H a = some o⟩ H (ns.map D.int) (ns.map V.int) [] := by
      clear hl sq
      induction ns with
      | nil => exact .nil
      | cons i r ih => exact .cons (f := []) (.int i) ih
    have reps : Reps K tb ⟨[], fun b => b = a ∧ ∃ o, H a = some o⟩ H [.obj false .rol (ns.map D.int)] [.ref a] [] := .cons (f := []) (.lstK (by
      rcases sq with sq | sq
      · refine .inr ⟨⟨rfl, ?_⟩, sq⟩
        rcases sq with sq | ⟨u, sq⟩
        · exact ⟨_, sq⟩
        · exact ⟨_, sq⟩
      · exact .inl sq) items) .nil
    exact ⟨⟨[], [], slr_start reps, .nil, List.nodup_nil, (fun a m => nomatch m), (fun z => nomatch z), (fun a m => nomatch m)⟩, (fun b z => z.1 ▸ z.2), (fun a z => .inl z), (fun a n => rfl), (fun a z => z), fun _ => rfl⟩
  · have h := val ns hl
    unfold fnP at h
    simp only [List.length_cons, List.length_nil] at h
    generalize body ⟨[.obj false .rol (ns.map D.int)].map some ++ List.replicate (N.length - 1) none, []⟩ = o at h ⊢
    cases o with
    | nx ρ' => cases h
    | rt d bx =>
      cases h
      intro g' v H' r l
      obtain ⟨_, rp, _⟩ := Rel.pushed (ρ := ⟨[], bx⟩) (σ := []) r
      cases rp
      rfl
    | bk ρ' => cases h
    | ct ρ' => cases h
    | ex c ρ' => cases h
    | no => cases h
end Tm

set_option Elab.async false
set_option linter.all false
set_option maxRecDepth 100000
set_option maxHeartbeats 1000000
namespace Tm
open PySem L2

/-! ### short names for what the printed bodies say -/
abbrev gV (i : Nat) : EX := fun ρ => ρ.get i
abbrev cI (i : Int) : EX := fun _ => .ok (.int i)
abbrev cB (b : Bool) : EX := fun _ => .ok (.bl b)
abbrev cN : EX := fun _ => .ok .non
abbrev cS (s : Str) : EX := fun _ => .ok (.str s)
abbrev cD (d : D) : EX := fun _ => .ok d
abbrev iL (f : EX) : S → R (List D) := fun ρ => (f ρ).bind itL
abbrev iP (f : EX) : S → R (List D) := fun ρ => (f ρ).bind itP
abbrev iT (f : EX) : S → R (List D) := fun ρ => (f ρ).bind itT
abbrev i1 (fs : AX) : S → R (List D) := fun ρ => (fs ρ).bind it1
abbrev i2 (fs : AX) : S → R (List D) := fun ρ => (fs ρ).bind it2
abbrev iRv (fs : AX) : S → R (List D) := fun ρ => (fs ρ).bind itRev
abbrev iEn (fs : AX) : S → R (List D) := fun ρ => (fs ρ).bind itEnum
abbrev aN : AX := aNil
abbrev dLt := cmpI fun i j => decide (i < j)
abbrev dLe := cmpI fun i j => decide (i ≤ j)
abbrev dGt := cmpI fun i j => decide (j < i)
abbrev dGe := cmpI fun i j => decide (j ≤ i)
abbrev eIsN (f : EX) : EX := eU (fun d => some (.bl (isNon d))) f
abbrev eNotN (f : EX) : EX := eU (fun d => some (.bl (!isNon d))) f

/-! ### comparisons as tests -/
section
variable {X : Cx} {tb : Tb} {W : WX} {T : Act} {a b : Expr} {f fa fb : EX} {pos : Pos} {k : Nat}
theorem bOf_vl : ∀ σ H Q, tBx X.K tb W T (bOf f) σ H Q → tVl X.K tb W T f σ H fun x H1 => ∃ c, x = .bl c ∧ Q c H1 := fun σ H Q ⟨g, ρ, rl, h⟩ =>
  ⟨g, ρ, rl, (Run.bind h).imp fun x _ h vx g1 H1 s1 rx => by
    unfold asB at h
    split at h
    · cases rx
      exact ⟨_, rfl, h g1 H1 s1⟩
    · exact h.elim⟩
theorem bLt (ha : PE X a (tPk X.K tb W T fa)) (hb : PE X b (tPk X.K tb W T fb)) : PT X (.Compare a [.Lt] [b] pos) (tBx X.K tb W T (bOf (eB2 dLt fa fb))) := pt_imp (pt_cmpR op_lt ha hb (nomark _)) fun σ H Q h => tOp_vl (opV_I0 fun i j _ _ => .bl _) σ H _ (bOf_vl σ H Q h)
theorem bLe (ha : PE X a (tPk X.K tb W T fa)) (hb : PE X b (tPk X.K tb W T fb)) : PT X (.Compare a [.LtE] [b] pos) (tBx X.K tb W T (bOf (eB2 dLe fa fb))) := pt_imp (pt_cmpR op_le ha hb (nomark _)) fun σ H Q h => tOp_vl (opV_I0 fun i j _ _ => .bl _) σ H _ (bOf_vl σ H Q h)
theorem bGt (ha : PE X a (tPk X.K tb W T fa)) (hb : PE X b (tPk X.K tb W T fb)) : PT X (.Compare a [.Gt] [b] pos) (tBx X.K tb W T (bOf (eB2 dGt fa fb))) := pt_imp (pt_cmpR op_gt ha hb (nomark _)) fun σ H Q h => tOp_vl (opV_I0 fun i j _ _ => .bl _) σ H _ (bOf_vl σ H Q h)
theorem bGe (ha : PE X a (tPk X.K tb W T fa)) (hb : PE X b (tPk X.K tb W T fb)) : PT X (.Compare a [.GtE] [b] pos) (tBx X.K tb W T (bOf (eB2 dGe fa fb))) := pt_imp (pt_cmpR op_ge ha hb (nomark _)) fun σ H Q h => tOp_vl (opV_I0 fun i j _ _ => .bl _) σ H _ (bOf_vl σ H Q h)
theorem bEq (hr : Room k X.A) (ha : PE X a (tPk X.K tb W T fa)) (hb : PE X b (tPk X.K tb W T fb)) : PT X (.Compare a [.Eq] [b] pos) (tBx X.K tb W T (bOf (eB2 dEq fa fb))) := pt_imp (pt_cmpR (op_eqD hr.units) ha hb (nomark _)) fun σ H Q h => tOp_vl (by
  intro ρ σ g H x y vx vy fx fy d Q rl rx ry e k
  unfold dEq at e
  split at e
  · rename_i d1 d2 e1 e2
    split at e
    · rename_i c
      cases e
      simp only [Bool.and_eq_true] at c
      exact ⟨d1, d2, Rep.dp _ _ _ _ rx e1, Rep.dp _ _ _ _ ry e2, c.1, c.2, k _ g H (.refl rl) (.bl _)⟩
    · cases e
  · cases e) σ H _ (bOf_vl σ H Q h)
theorem bNe (hr : Room k X.A) (ha : PE X a (tPk X.K tb W T fa)) (hb : PE X b (tPk X.K tb W T fb)) : PT X (.Compare a [.NotEq] [b] pos) (tBx X.K tb W T (bOf (eB2 dNe fa fb))) := pt_imp (pt_cmpR (op_neD hr.units) ha hb (nomark _)) fun σ H Q h => tOp_vl (by
  intro ρ σ g H x y vx vy fx fy d Q rl rx ry e k
  unfold dNe at e
  split at e
  · rename_i d1 d2 e1 e2
    split at e
    · rename_i c
      cases e
      simp only [Bool.and_eq_true] at c
      exact ⟨d1, d2, Rep.dp _ _ _ _ rx e1, Rep.dp _ _ _ _ ry e2, c.1, c.2, k _ g H (.refl rl) (.bl _)⟩
    · cases e
  · cases e) σ H _ (bOf_vl σ H Q h)
theorem bIn (ha : PE X a (tPk X.K tb W T fa)) (hb : PE X b (tPk X.K tb W T fb)) (hm : behindInMarks .In b = false := by rfl) : PT X (.Compare a [.In] [b] pos) (tBx X.K tb W T (bOf (eB2 (dIn false) fa fb))) := pt_imp (pt_cmpR op_in_seq ha hb hm) fun σ H Q h => tOp_vl opV_in σ H _ (bOf_vl σ H Q h)
theorem bNotIn (ha : PE X a (tPk X.K tb W T fa)) (hb : PE X b (tPk X.K tb W T fb)) (hm : behindInMarks .NotIn b = false := by rfl) : PT X (.Compare a [.NotIn] [b] pos) (tBx X.K tb W T (bOf (eB2 (dIn true) fa fb))) := pt_imp (pt_cmpR op_notIn_seq ha hb hm) fun σ H Q h => tOp_vl opV_in σ H _ (bOf_vl σ H Q h)
theorem bIsN {j p'} (ha : PE X a (tPk X.K tb W T fa)) : PT X (.Compare a [.Is] [.Constant .none j p'] pos) (tBx X.K tb W T (bOf (eIsN fa))) := pt_imp (pt_cmp (pc_isN ha) rfl) fun σ H Q h => by
  obtain ⟨g, ρ, rl, h⟩ := bOf_vl σ H Q h
  refine ⟨g, ρ, rl, (Run.bind h).imp fun x _ h vx g1 H1 fx s1 rx => ?_⟩
  obtain ⟨c, e, q⟩ := h (.bl (isNon x)) g1 H1 s1 (.bl _)
  cases e
  exact ⟨_, by rw [rx.isNon_iff], q⟩
theorem bNotN {j p'} (ha : PE X a (tPk X.K tb W T fa)) : PT X (.Compare a [.IsNot] [.Constant .none j p'] pos) (tBx X.K tb W T (bOf (eNotN fa))) := pt_imp (pt_cmp (pc_notN ha) rfl) fun σ H Q h => by
  obtain ⟨g, ρ, rl, h⟩ := bOf_vl σ H Q h
  refine ⟨g, ρ, rl, (Run.bind h).imp fun x _ h vx g1 H1 fx s1 rx => ?_⟩
  obtain ⟨c, e, q⟩ := h (.bl (!isNon x)) g1 H1 s1 (.bl _)
  cases e
  exact ⟨_, by rw [rx.isNon_iff], q⟩
end

/-! ### equality of scalars -/
def dEqF : D → D → Option D := fun x y => match flatD x, flatD y with
  | some v, some u => if scal v u = true then some (.bl (decide (v = u))) else none
  | _, _ => none
def dNeF : D → D → Option D := fun x y => match flatD x, flatD y with
  | some v, some u => if scal v u = true then some (.bl (!decide (v = u))) else none
  | _, _ => none
theorem opV_eqF {K : PySem.W.Frag} {tb : Tb} {T : Act} : OpV K tb T rEq dEqF := by
  intro ρ σ g H x y vx vy fx fy d Q rl rx ry e k
  unfold dEqF at e
  split at e
  · rename_i u1 u2 e1 e2
    split at e
    · rename_i c
      cases e
      rw [(flatD_rep rx e1).1, (flatD_rep ry e2).1]
      exact ⟨c, k _ g H (.refl rl) (.bl _)⟩
    · cases e
  · cases e
theorem opV_neF {K : PySem.W.Frag} {tb : Tb} {T : Act} : OpV K tb T rNe dNeF := by
  intro ρ σ g H x y vx vy fx fy d Q rl rx ry e k
  unfold dNeF at e
  split at e
  · rename_i u1 u2 e1 e2
    split at e
    · rename_i c
      cases e
      rw [(flatD_rep rx e1).1, (flatD_rep ry e2).1]
      exact ⟨c, k _ g H (.refl rl) (.bl _)⟩
    · cases e
  · cases e
section
variable {X : Cx} {tb : Tb} {W : WX} {T : Act} {a b : Expr} {f fa fb : EX} {pos : Pos}
theorem vEqF (ha : PE X a (tPk X.K tb W T fa)) (hb : PE X b (tPk X.K tb W T fb)) : PE X (.Compare a [.Eq] [b] pos) (tVl X.K tb W T (eB2 dEqF fa fb)) := pe_imp (pe_cmpR op_eq ha hb (nomark _)) (tOp_vl opV_eqF)
theorem vNeF (ha : PE X a (tPk X.K tb W T fa)) (hb : PE X b (tPk X.K tb W T fb)) : PE X (.Compare a [.NotEq] [b] pos) (tVl X.K tb W T (eB2 dNeF fa fb)) := pe_imp (pe_cmpR op_ne ha hb (nomark _)) (tOp_vl opV_neF)
theorem bEqF (ha : PE X a (tPk X.K tb W T fa)) (hb : PE X b (tPk X.K tb W T fb)) : PT X (.Compare a [.Eq] [b] pos) (tBx X.K tb W T (bOf (eB2 dEqF fa fb))) := pt_imp (pt_cmpR op_eq ha hb (nomark _)) fun σ H Q h => tOp_vl opV_eqF σ H _ (bOf_vl σ H Q h)
theorem bNeF (ha : PE X a (tPk X.K tb W T fa)) (hb : PE X b (tPk X.K tb W T fb)) : PT X (.Compare a [.NotEq] [b] pos) (tBx X.K tb W T (bOf (eB2 dNeF fa fb))) := pt_imp (pt_cmpR op_ne ha hb (nomark _)) fun σ H Q h => tOp_vl opV_neF σ H _ (bOf_vl σ H Q h)
end

/-! ### the program's own defs -/
structure Own (P : Program) (w : World) (K : PySem.W.Frag) (mg : Str → Option Value) (base : Heap) (tb : Tb) (k : Nat) (x : Str) (n : Nat) (F : List D → List D → R D) : Prop where
  ex : ∃ (f : Addr) (fd : FuncData) (ps : List Str), FnOk P w K mg base (L2.CX P w) k f fd ps (spP K tb n F) ∧ mg x = some (.ref f) ∧ PySem.W.keepIn K (.ref f) = true ∧ Binds K fd ps []
section
variable {X : Cx} {tb : Tb} {W : WX} {T : Act} {k : Nat} {F : List D → List D → R D} {x : Str} {p pos : Pos} {e : Expr} {es : List Expr} {fs : AX}
theorem fCallO {n j : Nat} (G : Own X.prog X.w X.K X.mg X.base tb j x n F) (hr : Room k X.A) (hj : j ≤ k) (tk : Takes X W) (ha : PA X (e :: es) (tAx X.K tb W T fs)) (hg : Gl X x := by rfl) (hdb : (x == ("__debug__" : Str)) = false := by decide)
    (he : starEach (e :: es) X.env = (false, eval e X.env) :: starEach es X.env := by rfl) (hpl : (backTo pos (starEach es X.env)).any (·.1) = false := by rfl) : PE X (.Call (.Name x p) (e :: es) [] pos) (tFr X.K tb W T (eCall n F fs)) := by
  obtain ⟨f, fd, ps, ok, hm, hk, hb⟩ := G.ex
  exact fCall ok (hr.mono hj) hm hk hb tk ha hg hdb he hpl
end
/-- what the top has written of a def -/
structure Dfd (K : PySem.W.Frag) (x : Str) (st : Stmt) : Prop where
  ex : ∃ (f : Addr) (fd : FuncData), PySem.W.nsIn K mainGlobals x = some (some (.ref f)) ∧ L2.Fun K x x st f fd
theorem dfd_mk {K : PySem.W.Frag} {x : Str} {st : Stmt} {f : Addr} {od an : Option Addr} {sl : Array (Option Value)} {oc kV dc pm cd ct : Value} (a : PySem.W.nsIn K mainGlobals x = some (some (.ref f)))
    (l : K.lookup f = some ⟨oc, od, .func (PySem.W.fnOf x x (defArgs st) (defBody st) (defScope st) .none kV dc pm an cd ct), sl⟩) (c : PySem.W.codeIn K cd x = true) (k : PySem.W.keepIn K (.ref f) = true) : Dfd K x st := ⟨f, _, a, fun_mk l c k⟩
theorem Dfd.own {P : Program} {w : World} {K : PySem.W.Frag} {mg : Str → Option Value} {base h : Heap} {tb : Tb} {x : Str} {st : Stmt} {N ps : List Str} {k : Nat} {body : SM} (inS : K.In h) (G : h.Ns mainGlobals mg) (D : Dfd K x st) (Sc : FnScope N ps (defScope st))
    (bd : ∀ (kV doc pm : Value) (an : Option Addr) (cdv ct : Value) (us : List Value), us.length = ps.length → bindArgs (PySem.W.fnOf x x (defArgs st) (defBody st) (defScope st) .none kV doc pm an cdv ct) ⟨us, []⟩ = pure (ps.zip us))
    (red : ∀ (f : Addr) (cdv : Value) (A : Around) (outer : List Env) (s : Shared) (H : Hp) (E : XK) (T : Act), Room k (A.deeper (PyProof.Rows.envOfC x (defScope st) s.heap.objs.size f cdv)) →
      Takes (cxOf (L2.CX P w) P w K mg base N x (defScope st) f cdv A outer s H E) (fun cls d _ H => E cls d H) → (∀ c, c = cxOf (L2.CX P w) P w K mg base N x (defScope st) f cdv A outer s H E → PassesOwn (model c.prog c.w) c.A c.env c.xe) →
      PSs (cxOf (L2.CX P w) P w K mg base N x (defScope st) f cdv A outer s H E) (defBody st) (tSt K tb (fun cls d _ H => E cls d H) T body)) :
    Own P w K mg base tb (k + 1) x ps.length (fnP N.length body) := by
  obtain ⟨f, fd, a, F⟩ := D.ex
  exact ⟨f, fd, ps, fn_pure F Sc fun cdv A outer s H E T hr => red f cdv A outer s H E T hr (takes_of rfl rfl rfl rfl) (fun c e => e ▸ passes_of rfl), PySem.W.mg_of inS G a, F.kp, F.binds bd⟩
end Tm

set_option Elab.async false
set_option linter.all false
set_option maxRecDepth 100000
set_option maxHeartbeats 1000000
namespace Tm
open PySem L2

/-! ### reckoning with the mirror -/
def Out.sq (o : Out) (g : SM) : Out := match o with
  | .nx ρ' => g ρ'
  | o => o
def Out.of {α : Type} (r : R α) (ρ : S) (k : α → Out) : Out := match r with
  | .ok a => k a
  | .ex c => .ex c ρ
  | .no => .no
section
variable {α β : Type} {f g : SM} {fe fj : EX} {ρ ρ' : S} {bt : D → S → R S} {k : α → Out}
theorem mSeq_ev : mSeq f g ρ = (f ρ).sq g := rfl
theorem sq_nx : (Out.nx ρ').sq g = g ρ' := rfl
theorem sq_rt {d : D} {bx : List D} : (Out.rt d bx).sq g = .rt d bx := rfl
theorem sq_bk : (Out.bk ρ').sq g = .bk ρ' := rfl
theorem sq_ct : (Out.ct ρ').sq g = .ct ρ' := rfl
theorem sq_ex {c : Nat} : (Out.ex c ρ').sq g = .ex c ρ' := rfl
theorem sq_ite {p : Prop} [Decidable p] {a b : Out} : (if p then a else b).sq g = if p then a.sq g else b.sq g := by split <;> rfl
theorem of_ok {a : α} : Out.of (.ok a) ρ k = k a := rfl
theorem of_ex {c : Nat} : Out.of (.ex c : R α) ρ k = .ex c ρ := rfl
theorem mSkip_ev : mSkip ρ = .nx ρ := rfl
theorem mBk_ev : mBk ρ = .bk ρ := rfl
theorem mCt_ev : mCt ρ = .ct ρ := rfl
theorem mSetN_ev {i : Nat} : mSet (bName i) fe ρ = Out.of (fe ρ) ρ fun d => .nx (ρ.set i d) := by
  unfold mSet Out.of bName; cases fe ρ <;> rfl
theorem mRet_ev : mRet fe ρ = Out.of (fe ρ) ρ fun d => .rt d ρ.bx := by
  unfold mRet Out.of; cases fe ρ <;> rfl
theorem mIf_ev {c : BX} : mIf c f g ρ = Out.of (c ρ) ρ fun b => if b = true then f ρ else g ρ := by
  unfold mIf Out.of; cases c ρ <;> rfl
theorem mFor_ev {fx : S → R (List D)} : mFor fx bt f ρ = Out.of (fx ρ) ρ fun xs => forL bt f xs ρ := by
  unfold mFor Out.of; cases fx ρ <;> rfl
theorem mApp_ev {i : Nat} {xs : List D} (h : ρ.sl[i]? = some (some (.obj true .lst xs))) (hl : xs.length < 16000000) : mApp i fe ρ = Out.of (fe ρ) ρ fun d => .nx (ρ.set i (.obj true .lst (xs ++ [d]))) := by
  unfold mApp ownL onSlot Out.of
  rw [h]
  simp only [if_true]
  cases fe ρ with
  | ok d => simp only [appD, hl, if_true]
  | ex c => rfl
  | no => rfl
theorem eB2_ev {op : D → D → Option D} {fa fb : EX} : eB2 op fa fb ρ = (fa ρ).bind fun x => (fb ρ).bind fun y => R.of (op x y) := rfl
theorem eU_ev {op : D → Option D} {fa : EX} : eU op fa ρ = (fa ρ).bind fun x => R.of (op x) := rfl
theorem eC_ev {op : List D → Option D} {fs : AX} : eC op fs ρ = (fs ρ).bind fun ds => R.of (op ds) := rfl
theorem aNil_ev : aNil ρ = .ok [] := rfl
theorem aCons_ev {fs : AX} : aCons fe fs ρ = (fe ρ).bind fun d => (fs ρ).map fun ds => d :: ds := rfl
theorem eCall_ev {n : Nat} {F : List D → List D → R D} {fs : AX} : eCall n F fs ρ = (fs ρ).bind fun ds => if ds.length = n then F ds ρ.bx else .no := rfl
theorem eTup_ev {fs : AX} : eTup fs ρ = (fs ρ).bind fun ds => if ds.length ≤ 10000 then .ok (.tup ds) else .no := rfl
theorem eLst_ev {fs : AX} : eLst fs ρ = (fs ρ).bind fun ds => if ds.length ≤ 10000 then .ok (.obj true .lst ds) else .no := rfl
theorem eSl_ev {op : D → Option Int → Option Int → Option D} {lo hi : S → R (Option Int)} : eSl op fe lo hi ρ = (fe ρ).bind fun x => (lo ρ).bind fun l => (hi ρ).bind fun h => R.of (op x l h) := rfl
theorem oNo_ev : oNo ρ = .ok none := rfl
theorem oSo_ev : oSo fe ρ = (fe ρ).bind fun x => match x with | .int i => .ok (some i) | _ => .no := rfl
theorem bOf_ev : bOf fe ρ = (fe ρ).bind asB := rfl
theorem bAnd_ev {a b : BX} : bAnd a b ρ = (a ρ).bind fun x => if x then b ρ else .ok false := rfl
theorem bOr_ev {a b : BX} : bOr a b ρ = (a ρ).bind fun x => if x then .ok true else b ρ := rfl
theorem bNot_ev {a : BX} : bNot a ρ = (a ρ).map fun b => !b := rfl
theorem eOr_ev {a b : EX} {x : Bool} (h : a ρ = .ok (.bl x)) : eOr a b ρ = if x then .ok (.bl true) else b ρ := by
  unfold eOr; rw [h]; cases x <;> rfl
theorem eAnd_ev {a b : EX} {x : Bool} (h : a ρ = .ok (.bl x)) : eAnd a b ρ = if x then b ρ else .ok (.bl false) := by
  unfold eAnd; rw [h]; cases x <;> rfl
theorem asB_bl {b : Bool} : asB (.bl b) = .ok b := rfl
theorem get_ev {i : Nat} {d : D} (h : ρ.sl[i]? = some (some d)) : ρ.get i = .ok d := by unfold S.get; rw [h]
theorem set_mk {sl : List (Option D)} {bx : List D} {i : Nat} {d : D} : S.set ⟨sl, bx⟩ i d = ⟨sl.set i (some d), bx⟩ := rfl
theorem get_mk {sl : List (Option D)} {bx : List D} {i : Nat} : S.get ⟨sl, bx⟩ i = match sl[i]? with | some (some d) => .ok d | _ => .no := rfl
end

theorem forL_inv {bt : D → S → R S} {body : SM} (I : Nat → S → Prop) {xs : List D} (step : ∀ i x ρ, xs[i]? = some x → I i ρ → ∃ ρ1 ρ2, bt x ρ = .ok ρ1 ∧ (body ρ1 = .nx ρ2 ∨ body ρ1 = .ct ρ2) ∧ I (i + 1) ρ2) {ρ : S} (h0 : I 0 ρ) :
    ∃ ρ', forL bt body xs ρ = .nx ρ' ∧ I xs.length ρ' := by
  induction xs generalizing I ρ with
  | nil => exact ⟨ρ, rfl, h0⟩
  | cons x r ih =>
    obtain ⟨ρ1, ρ2, e1, e2, h1⟩ := step 0 x ρ rfl h0
    obtain ⟨ρ', e3, h3⟩ := ih (fun i => I (i + 1)) (fun i y ρ e h => step (i + 1) y ρ (by simpa using e) h) h1
    refine ⟨ρ', ?_, by simpa using h3⟩
    unfold forL
    rw [e1]
    rcases e2 with e2 | e2 <;> simp only [e2, e3]
theorem lcL_ev {vs : List Nat} {bt : D → S → R S} {tt : BX} {fe : EX} {ρ : S} (s : D → S) (p : D → Bool) (f : D → D) : ∀ {xs : List D}, (∀ x ∈ xs, bt x (ρ.wipe vs) = .ok (s x) ∧ tt (s x) = .ok (p x) ∧ (p x = true → fe (s x) = .ok (f x))) →
    lcL vs bt tt fe ρ xs = .ok ((xs.filter p).map f)
  | [], _ => rfl
  | x :: r, h => by
    obtain ⟨e1, e2, e3⟩ := h x List.mem_cons_self
    have ih := lcL_ev (vs := vs) (bt := bt) (tt := tt) (fe := fe) (ρ := ρ) s p f (xs := r) fun y m => h y (List.mem_cons_of_mem _ m)
    unfold lcL
    rw [e1, R.bind_ok, e2, R.bind_ok, ih]
    cases c : p x with
    | true => rw [if_pos rfl, e3 c, R.bind_ok, R.map_ok, List.filter_cons_of_pos c, List.map_cons]
    | false => rw [if_neg Bool.false_ne_true, List.filter_cons_of_neg (by rw [c]; exact Bool.false_ne_true)]
theorem eLc_ev {vs : List Nat} {bt : D → S → R S} {tt : BX} {fe : EX} {fx : S → R (List D)} {ρ : S} {xs : List D} (s : D → S) (p : D → Bool) (f : D → D) (hx : fx ρ = .ok xs) (hl : xs.length ≤ 16000000)
    (h : ∀ x ∈ xs, bt x (ρ.wipe vs) = .ok (s x) ∧ tt (s x) = .ok (p x) ∧ (p x = true → fe (s x) = .ok (f x))) : eLc vs bt tt fe fx ρ = .ok (.obj true .lst ((xs.filter p).map f)) := by
  unfold eLc
  rw [hx, R.bind_ok, if_pos hl, lcL_ev s p f h]

/-! ### data -/
theorem dEq_str {a b : Str} (ha : PyData.strOk a = true) (hb : PyData.strOk b = true) : dEq (.str a) (.str b) = some (.bl (a == b)) := by
  unfold dEq
  simp only [D.py, SeqAt.shaped, PyData.canLay0, ha, hb, PyData.depth, PyData.eqv]
  rfl
theorem dNe_str {a b : Str} (ha : PyData.strOk a = true) (hb : PyData.strOk b = true) : dNe (.str a) (.str b) = some (.bl (!(a == b))) := by
  unfold dNe
  simp only [D.py, SeqAt.shaped, PyData.canLay0, ha, hb, PyData.depth, PyData.eqv]
  rfl
theorem dEq_int {a b : Int} : dEq (.int a) (.int b) = some (.bl (a == b)) := rfl
theorem dNe_int {a b : Int} : dNe (.int a) (.int b) = some (.bl (!(a == b))) := rfl
theorem dIx_lst {o : Bool} {xs : List D} {i : Int} : dIx (.obj o .lst xs) (.int i) = atI xs i := rfl
theorem dIx_rol {o : Bool} {xs : List D} {i : Int} : dIx (.obj o .rol xs) (.int i) = atI xs i := rfl
theorem dIx_tup {xs : List D} {i : Int} : dIx (.tup xs) (.int i) = atI xs i := rfl
theorem ixN_at {n : Nat} {i : Int} (h0 : 0 ≤ i) (h1 : i < n) : ixN n i = some i.toNat := by
  unfold ixN
  rw [if_pos h0, if_pos h1]
theorem atI_at {α : Type} {xs : List α} {i : Int} (h0 : 0 ≤ i) (h1 : i < xs.length) : atI xs i = xs[i.toNat]? := by
  unfold atI
  rw [ixN_at h0 h1]
  rfl
mutual
theorem frz_id : ∀ {d : D}, d.isF = true → d.frz = d
  | .obj o t xs, h => by
    simp only [D.isF, Bool.and_eq_true, Bool.not_eq_true'] at h
    simp only [D.frz, h.1, frzL_id h.2]
  | .non, _ => rfl
  | .bl b, _ => rfl
  | .int i, _ => rfl
  | .str s, _ => rfl
  | .tup xs, _ => rfl
  | .box n, _ => rfl
  | .fn n, _ => rfl
  | .cl n, _ => rfl
theorem frzL_id : ∀ {xs : List D}, isFL xs = true → frzL xs = xs
  | [], _ => rfl
  | x :: r, h => by
    simp only [isFL, Bool.and_eq_true] at h
    simp only [frzL, frz_id h.1, frzL_id h.2]
end
theorem isFL_of {xs : List D} (h : ∀ x ∈ xs, x.isF = true) : isFL xs = true := by
  induction xs with
  | nil => rfl
  | cons x r ih => simp only [isFL, h x List.mem_cons_self, ih fun y m => h y (List.mem_cons_of_mem _ m), Bool.and_self]
theorem isFL_mem {xs : List D} (h : isFL xs = true) : ∀ x ∈ xs, x.isF = true := by
  induction xs with
  | nil => intro x m; cases m
  | cons x r ih =>
    simp only [isFL, Bool.and_eq_true] at h
    intro y m
    rcases List.mem_cons.mp m with rfl | m
    · exact h.1
    · exact ih h.2 y m

/-! ### data that can be shown and compared -/
structure Okd (n k : Nat) (d : D) : Prop where
  ex : ∃ p, d.py = some p ∧ p.canLay0 = true ∧ p.showable = true ∧ p.depth ≤ k ∧ p.shown.length ≤ n
theorem Okd.mono {n m k j : Nat} {d : D} (h : Okd n k d) (hn : n ≤ m) (hk : k ≤ j) : Okd m j d := by
  obtain ⟨p, h1, h2, h3, h4, h5⟩ := h.ex
  exact ⟨p, h1, h2, h3, by omega, by omega⟩
theorem okL {n k : Nat} : ∀ {xs : List D}, (∀ x ∈ xs, Okd n k x) → ∃ ps, pyL xs = some ps ∧ PyData.canLayAll0 ps = true ∧ PyData.showableAll ps = true ∧ PyData.depthAll ps ≤ k ∧ ps.length = xs.length ∧ ∀ t ∈ PyData.shownAll ps, t.length ≤ n
  | [], _ => ⟨[], rfl, rfl, rfl, Nat.zero_le _, rfl, fun t m => nomatch m⟩
  | x :: r, h => by
    obtain ⟨p, h1, h2, h3, h4, h5⟩ := (h x List.mem_cons_self).ex
    obtain ⟨ps, e1, e2, e3, e4, e5, e6⟩ := okL (n := n) (k := k) (xs := r) fun y m => h y (List.mem_cons_of_mem _ m)
    refine ⟨p :: ps, by simp only [pyL, h1, e1], by simp only [PyData.canLayAll0, h2, e2, Bool.and_self], by simp only [PyData.showableAll, h3, e3, Bool.and_self], by simp only [PyData.depthAll]; omega, by simp only [List.length_cons, e5], ?_⟩
    intro t m
    simp only [PyData.shownAll, List.mem_cons] at m
    rcases m with rfl | m
    · exact h5
    · exact e6 t m
theorem shownAll_len : ∀ ps : List PyData, (PyData.shownAll ps).length = ps.length
  | [] => rfl
  | p :: r => by simp only [PyData.shownAll, List.length_cons, shownAll_len r]
theorem textFrom_le {n : Nat} : ∀ (ts : List Str) (k : Nat) (acc : Str), (∀ t ∈ ts, t.length ≤ n) → (textFrom k acc ts).length ≤ acc.length + ts.length * (n + 2)
  | [], k, acc, _ => by simp [textFrom]
  | t :: r, k, acc, h => by
    have h1 := h t List.mem_cons_self
    have h2 := textFrom_le (n := n) r (k + 1) (acc ++ (if k > 0 then ", " else "" : String) ++ t) fun u m => h u (List.mem_cons_of_mem _ m)
    have e : (acc ++ (if k > 0 then ", " else "" : String) ++ t).length = acc.length + (if k > 0 then 2 else 0) + t.length := by
      rw [strLen_append, strLen_append]
      split <;> rfl
    unfold textFrom
    rw [e] at h2
    have e3 : (t :: r).length * (n + 2) = r.length * (n + 2) + (n + 2) := by rw [List.length_cons, Nat.succ_mul]
    have e4 : (if k > 0 then 2 else 0 : Nat) ≤ 2 := by split <;> omega
    rw [e3]
    generalize (if k > 0 then 2 else 0 : Nat) = c at h2 e4
    omega
theorem piled_le {n : Nat} : ∀ (ts : List Str), (∀ t ∈ ts, t.length ≤ n) → piled ts ≤ ts.length * (n + 2)
  | [], _ => by simp [piled]
  | t :: r, h => by
    have h1 := h t List.mem_cons_self
    have h2 := piled_le (n := n) r fun u m => h u (List.mem_cons_of_mem _ m)
    have e3 : (t :: r).length * (n + 2) = r.length * (n + 2) + (n + 2) := by rw [List.length_cons, Nat.succ_mul]
    rw [e3]
    simp only [piled, List.map_cons, List.sum_cons] at h2 ⊢
    omega
theorem join_le {n : Nat} (ts : List Str) (h : ∀ t ∈ ts, t.length ≤ n) : (Str.join ", " ts).length ≤ ts.length * (n + 2) := by
  cases ts with
  | nil => exact Nat.zero_le _
  | cons t r =>
    have h1 := join_length_add (t :: r) (List.cons_ne_nil _ _)
    have h2 := piled_le (t :: r) h
    omega
theorem Okd.tup {n k : Nat} {xs : List D} (h : ∀ x ∈ xs, Okd n k x) : Okd (3 + xs.length * (n + 2)) (k + 1) (.tup xs) := by
  obtain ⟨ps, e1, e2, e3, e4, e5, e6⟩ := okL h
  refine ⟨.tuple ps, by simp only [D.py, e1, Option.map_some], by simp only [PyData.canLay0, e2], by simp only [PyData.showable, e3], by simp only [PyData.depth]; omega, ?_⟩
  simp only [PyData.shown, tupleText]
  rw [strLen_append, strLen_append]
  have h1 := join_le _ e6
  rw [shownAll_len, e5] at h1
  have l1 : ((("(" : String) : Str)).length = 1 := rfl
  have l3 : (((if (PyData.shownAll ps).length == 1 then ",)" else ")" : String) : Str)).length ≤ 2 := by split <;> decide
  omega
theorem Okd.lst {n k : Nat} {o : Bool} {t : Tg} {xs : List D} (ht : t = .lst ∨ t = .rol) (h : ∀ x ∈ xs, Okd n k x) : Okd (3 + xs.length * (n + 2)) (k + 1) (.obj o t xs) := by
  obtain ⟨ps, e1, e2, e3, e4, e5, e6⟩ := okL h
  refine ⟨.list ps, by rcases ht with rfl | rfl <;> simp only [D.py, e1, Option.map_some], by simp only [PyData.canLay0, e2], by simp only [PyData.showable, e3], by simp only [PyData.depth]; omega, ?_⟩
  simp only [PyData.shown, listText]
  rw [strLen_append]
  have h1 := textFrom_le (PyData.shownAll ps) 0 "[" e6
  rw [shownAll_len, e5] at h1
  have l1 : ((("[" : String) : Str)).length = 1 := rfl
  have l3 : ((("]" : String) : Str)).length = 1 := rfl
  omega
theorem Okd.non : Okd 4 0 .non := ⟨.none, rfl, rfl, rfl, Nat.le_refl _, by decide⟩
theorem Okd.str {s : Str} {n : Nat} (h : (PyData.str s).canLay0 = true) (hl : (PyData.str s).shown.length ≤ n) : Okd n 0 (.str s) := ⟨.str s, rfl, h, by simp only [PyData.showable], Nat.le_refl _, hl⟩
theorem shown_small : ∀ i : Fin 200, ((PyData.int (i.val : Int)).shown.length ≤ 3 ∧ (PyData.int (i.val : Int)).showable = true) := by decide +kernel
theorem Okd.int {i : Int} (h0 : 0 ≤ i) (h1 : i < 200) : Okd 3 0 (.int i) := by
  obtain ⟨n, rfl⟩ := Int.eq_ofNat_of_zero_le h0
  have h := shown_small ⟨n, by omega⟩
  exact ⟨.int n, rfl, rfl, h.2, Nat.le_refl _, h.1⟩
theorem Okd.same {n k : Nat} {d : D} (h : Okd n k d) (hk : k ≤ 64) : dNe d d = some (.bl false) ∧ dEq d d = some (.bl true) := by
  obtain ⟨p, h1, h2, h3, h4, h5⟩ := h.ex
  have sh : SeqAt.shaped p = true := by
    unfold SeqAt.shaped
    rw [h2, decide_eq_true (by omega : p.depth ≤ 64)]
    rfl
  unfold dNe dEq
  rw [h1]
  simp only [sh, Bool.and_true, if_true, SeqAt.eqv_refl p h2]
  exact ⟨rfl, trivial⟩
theorem Okd.repr {n k : Nat} {d : D} {xs : List D} (h : Okd n k d) (hs : seqD d = some xs) (hk : k ≤ 30) (hn : n ≤ 16777216) : ∃ s : Str, dRepr [d] = some (.str s) := by
  obtain ⟨p, h1, h2, h3, h4, h5⟩ := h.ex
  refine ⟨p.shown, ?_⟩
  simp only [dRepr, hs, h1]
  rw [if_pos ⟨h3, PyData.hasDict_of_canLay p h2, by omega, by rw [sizeLine_eq]; omega⟩]
end Tm

set_option Elab.async false
set_option linter.all false
set_option maxRecDepth 100000
set_option maxHeartbeats 1000000
namespace Tm
open PySem L2

/-! ### ints -/
theorem dMul_l {i j : Int} (h : inR i = true) : dMul (.int i) (.int j) = some (.int (i * j)) := by unfold dMul; simp only [h, Bool.true_or, if_true]
theorem dMul_r {i j : Int} (h : inR j = true) : dMul (.int i) (.int j) = some (.int (i * j)) := by unfold dMul; simp only [h, Bool.or_true, if_true]
theorem dDiv_p {i j : Int} (h : 0 < j ∧ j < 1073741824) : dDiv (.int i) (.int j) = some (.int (i / j)) := by unfold dDiv; simp only [if_pos h]
theorem dMod_p {i j : Int} (h : 0 < j) : dMod (.int i) (.int j) = some (.int (i % j)) := by unfold dMod; simp only [if_pos h]
theorem dInt_int {i : Int} : dInt [.int i] = some (.int i) := rfl
theorem addI_int {i j : Int} : addI (.int i) (.int j) = some (.int (i + j)) := rfl
theorem dSub_int {i j : Int} : dSub (.int i) (.int j) = some (.int (i - j)) := rfl
theorem dLt_int {i j : Int} : dLt (.int i) (.int j) = some (.bl (decide (i < j))) := rfl
theorem dLe_int {i j : Int} : dLe (.int i) (.int j) = some (.bl (decide (i ≤ j))) := rfl
theorem dGt_int {i j : Int} : dGt (.int i) (.int j) = some (.bl (decide (j < i))) := rfl
theorem dGe_int {i j : Int} : dGe (.int i) (.int j) = some (.bl (decide (j ≤ i))) := rfl
theorem dLen_rol {o : Bool} {xs : List D} : dLen [.obj o .rol xs] = some (.int xs.length) := rfl
theorem dLen_lst {o : Bool} {xs : List D} : dLen [.obj o .lst xs] = some (.int xs.length) := rfl
theorem dLen_tup {xs : List D} : dLen [.tup xs] = some (.int xs.length) := rfl
theorem rng_get {lo : Int} {n i : Nat} {x : D} (h : (rngL lo n)[i]? = some x) : x = .int (lo + i) ∧ i < n := by
  unfold rngL at h
  rw [List.getElem?_map] at h
  cases e : (List.range n)[i]? with
  | none => rw [e] at h; cases h
  | some j =>
    rw [e] at h
    obtain ⟨hl, hj⟩ := List.getElem?_eq_some_iff.mp e
    rw [List.getElem_range] at hj
    subst hj
    rw [List.length_range] at hl
    cases h
    exact ⟨rfl, hl⟩
theorem rng_len {lo : Int} {n : Nat} : (rngL lo n).length = n := by unfold rngL; rw [List.length_map, List.length_range]
theorem rng_mem {n : Nat} {x : D} (h : x ∈ rngL 0 n) : ∃ i : Nat, x = .int i ∧ i < n := by
  unfold rngL at h
  obtain ⟨i, hi, rfl⟩ := List.mem_map.mp h
  exact ⟨i, by rw [Int.zero_add], List.mem_range.mp hi⟩
theorem it1_nat {n : Nat} (h : n < 4611686018427387904) : it1 [.int (n : Int)] = .ok (rngL 0 n) := by
  have c : -(2 ^ 62) ≤ (n : Int) ∧ (n : Int) < 2 ^ 62 := ⟨by omega, by omega⟩
  simp only [it1, if_pos c, Int.toNat_natCast]
theorem it1_int {j : Int} (h0 : 0 ≤ j) (h : j < 4611686018427387904) : it1 [.int j] = .ok (rngL 0 j.toNat) := by
  obtain ⟨n, rfl⟩ := Int.eq_ofNat_of_zero_le h0
  rw [it1_nat (by omega), Int.toNat_natCast]

/-! ### more statements -/
theorem mRetV_ev {ρ : S} {i : Nat} {d : D} (h : ρ.sl[i]? = some (some d)) : mRetV i ρ = .rt d ρ.bx := by unfold mRetV; rw [h]
theorem mFrz_ev {ρ : S} {i : Nat} {d : D} {f : SM} (h : ρ.sl[i]? = some (some d)) : mFrz i f ρ = f (ρ.set i d.frz) := by unfold mFrz S.frz; rw [h]
theorem mPut2_ev {ρ : S} {i : Nat} {f1 fj f : EX} {xs ys : List D} {d : D} {a b : Nat} (h : ρ.sl[i]? = some (some (.obj true .lst xs))) (e : f ρ = .ok d) (e1 : f1 ρ = .ok (.int a)) (ej : fj ρ = .ok (.int b)) (hx : xs[a]? = some (.obj true .lst ys)) (hb : b < ys.length) :
    mPut2 i f1 fj f ρ = .nx (ρ.set i (.obj true .lst (xs.set a (.obj true .lst (ys.set b d))))) := by
  have ha : a < xs.length := (List.getElem?_eq_some_iff.mp hx).1
  have i1 : ixN xs.length (a : Int) = some a := by rw [ixN_at (by omega) (by omega), Int.toNat_natCast]
  have i2 : ixN ys.length (b : Int) = some b := by rw [ixN_at (by omega) (by omega), Int.toNat_natCast]
  unfold mPut2 putIn
  simp only [h, e, e1, ej, i1, hx, i2]
theorem forL_rt {bt : D → S → R S} {body : SM} (I : S → Prop) {d : D} {bx : List D} {x : D} {post : List D} : ∀ {pre : List D} {ρ : S}, (∀ y ∈ pre, ∀ ρ, I ρ → ∃ ρ1 ρ2, bt y ρ = .ok ρ1 ∧ body ρ1 = .nx ρ2 ∧ I ρ2) → (∀ ρ, I ρ → ∃ ρ1, bt x ρ = .ok ρ1 ∧ body ρ1 = .rt d bx) → I ρ → forL bt body (pre ++ x :: post) ρ = .rt d bx
  | [], ρ, _, h, h0 => by
    obtain ⟨ρ1, e1, e2⟩ := h ρ h0
    show forL bt body (x :: post) ρ = _
    unfold forL
    rw [e1]
    simp only [e2]
  | y :: r, ρ, hp, h, h0 => by
    obtain ⟨ρ1, ρ2, e1, e2, h1⟩ := hp y List.mem_cons_self ρ h0
    show forL bt body (y :: (r ++ x :: post)) ρ = _
    unfold forL
    rw [e1]
    simp only [e2]
    exact forL_rt I (fun z m => hp z (List.mem_cons_of_mem _ m)) h h1
theorem fnP_rt {N : Nat} {body : SM} {ds bx : List D} {d : D} {bx' : List D} (h : body ⟨ds.map some ++ List.replicate (N - ds.length) none, bx⟩ = .rt d bx') : fnP N body ds bx = .ok d := by unfold fnP; rw [h]

/-! ### lists of ints, of words -/
theorem isFL_ints (l : List Int) : isFL (l.map D.int) = true := isFL_of fun x m => by obtain ⟨i, _, rfl⟩ := List.mem_map.mp m; rfl
theorem isFL_strs (l : List Str) : isFL (l.map D.str) = true := isFL_of fun x m => by obtain ⟨i, _, rfl⟩ := List.mem_map.mp m; rfl
theorem flat_ints : ∀ l : List Int, flatDs (l.map D.int) = some (l.map V.int)
  | [] => rfl
  | x :: r => by rw [List.map_cons, flatDs, flat_ints r]; rfl
theorem flat_strs : ∀ l : List Str, flatDs (l.map D.str) = some (l.map V.str)
  | [] => rfl
  | x :: r => by rw [List.map_cons, flatDs, flat_strs r]; rfl
theorem eqV_int (x y : Int) : eqV (.int y) (.int x) = decide (x = y) := by
  by_cases c : x = y
  · subst c
    rw [decide_eq_true rfl]
    unfold eqV
    exact decide_eq_true rfl
  · rw [decide_eq_false c]
    unfold eqV
    exact decide_eq_false fun z => c (by cases z; rfl)
theorem inV_int (x : Int) : ∀ l : List Int, inV (.int x) (l.map V.int) = decide (x ∈ l)
  | [] => (decide_eq_false (fun m => nomatch m)).symm
  | y :: r => by
    have ih := inV_int x r
    unfold inV at ih ⊢
    rw [List.map_cons, List.any_cons, ih, eqV_int]
    by_cases c : x = y
    · rw [decide_eq_true c, Bool.true_or]
      exact (decide_eq_true (List.mem_cons.mpr (.inl c))).symm
    · rw [decide_eq_false c, Bool.false_or]
      by_cases m : x ∈ r
      · rw [decide_eq_true m]
        exact (decide_eq_true (List.mem_cons.mpr (.inr m))).symm
      · rw [decide_eq_false m]
        exact (decide_eq_false fun z => (List.mem_cons.mp z).elim c m).symm
theorem eqV_str (x y : Str) : eqV (.str y) (.str x) = decide (x = y) := by
  by_cases c : x = y
  · subst c
    rw [decide_eq_true rfl]
    unfold eqV
    exact decide_eq_true rfl
  · rw [decide_eq_false c]
    unfold eqV
    exact decide_eq_false fun z => c (by cases z; rfl)
theorem inV_str (x : Str) : ∀ l : List Str, inV (.str x) (l.map V.str) = decide (x ∈ l)
  | [] => (decide_eq_false (fun m => nomatch m)).symm
  | y :: r => by
    have ih := inV_str x r
    unfold inV at ih ⊢
    rw [List.map_cons, List.any_cons, ih, eqV_str]
    by_cases c : x = y
    · rw [decide_eq_true c, Bool.true_or]
      exact (decide_eq_true (List.mem_cons.mpr (.inl c))).symm
    · rw [decide_eq_false c, Bool.false_or]
      by_cases m : x ∈ r
      · rw [decide_eq_true m]
        exact (decide_eq_true (List.mem_cons.mpr (.inr m))).symm
      · rw [decide_eq_false m]
        exact (decide_eq_false fun z => (List.mem_cons.mp z).elim c m).symm
theorem dIn_int {neg : Bool} {x : Int} {d : D} {l : List Int} (h : seqD d = some (l.map D.int)) : dIn neg (.int x) d = some (.bl (if neg then !decide (x ∈ l) else decide (x ∈ l))) := by
  unfold dIn
  rw [h]
  simp only [flatD, Option.bind_some, flat_ints, inV_int]
theorem dIn_str {neg : Bool} {x : Str} {d : D} {l : List Str} (h : seqD d = some (l.map D.str)) : dIn neg (.str x) d = some (.bl (if neg then !decide (x ∈ l) else decide (x ∈ l))) := by
  unfold dIn
  rw [h]
  simp only [flatD, Option.bind_some, flat_strs, inV_str]
theorem ints_ok : ∀ l : List Int, intsD (l.map D.int) = some l
  | [] => rfl
  | x :: r => by rw [List.map_cons, intsD, ints_ok r]; rfl
theorem bools_ok : ∀ l : List Bool, bools (l.map D.bl) = some l
  | [] => rfl
  | x :: r => by rw [List.map_cons, bools, bools_ok r]; rfl
theorem dLenSet_ok {d : D} {l : List Int} (h : seqD d = some (l.map D.int)) (hl : l.length ≤ 4000) : dLenSet d = some (.int (nub l).length) := by
  unfold dLenSet
  rw [h]
  simp only [Option.bind_some, ints_ok, hl, if_true]
theorem dAny_ok {o : Bool} {l : List Bool} : dAny [.obj o .lst (l.map D.bl)] = some (.bl (l.any id)) := by
  simp only [dAny, bools_ok, Option.map_some]
theorem addL_ok {o o' : Bool} {xs ys : List D} (hx : isFL xs = true) (hy : isFL ys = true) (hl : xs.length + ys.length ≤ 16000000) : addL (.obj o .lst xs) (.obj o' .lst ys) = some (.obj true .lst (xs ++ ys)) := by
  unfold addL
  have : xs.length + ys.length ≤ sizeLine := by rw [sizeLine_eq]; omega
  simp only [hx, hy, this, decide_true, Bool.and_self, if_true]
theorem dList_ok {d : D} {xs : List D} (h : seqD d = some xs) (hx : isFL xs = true) : dList [d] = some (.obj true .lst xs) := by
  simp only [dList, h, Option.bind_some, hx, if_true]
theorem dTuple_ok {d : D} {xs : List D} (h : seqD d = some xs) (hx : isFL xs = true) : dTuple [d] = some (.tup xs) := by
  simp only [dTuple, h, Option.bind_some, hx, if_true]
end Tm

set_option Elab.async false
set_option linter.all false
set_option maxRecDepth 100000
set_option maxHeartbeats 4000000
namespace K81
open PySem PySem.Spec L2 Tm
def top (i : Nat) : Stmt := PySem.Challenge.pw_tidemark_k81_defects_of_roots.main.body.getD i (.Pass ⟨0, 0, 0, 0⟩)
abbrev st_root_page : Stmt := top 1
def N_root_page : List Str := ["scan", "block", "root", "page", "reading"]
def I_root_page_1 : SM := mIf (bAnd (bOf (eB2 dEq (eB2 dIx (gV 4) (cI 0)) (cS "right"))) (bAnd (bOf (eB2 dEq (eB2 dIx (eB2 dIx (gV 4) (cI 1)) (cI 0)) (cS "root"))) (bOf (eB2 dEq (eB2 dIx (eB2 dIx (gV 4) (cI 1)) (cI 1)) (eB2 dIx (gV 2) (cI 1))))))
 (mRet (eF (gV 3)))
 mSkip
def L_root_page_1 : SM := I_root_page_1
def B_root_page : SM := (mSeq (mFor (iEn (aCons (eF (eB2 dIx (gV 0) (gV 1))) aN)) (bTup [3, 4]) L_root_page_1)
 (mRet (cI 0)))
def F_root_page : List D → List D → R D := fnP 5 B_root_page
abbrev st_is_journal_wrong : Stmt := top 2
def N_is_journal_wrong : List Str := ["root", "journal", "places", "logical"]
def I_is_journal_wrong_1 : SM := mIf (bOf (eB2 dNe (eU dLenSet (gV 1)) (eC dLen (aCons (gV 1) aN))))
 (mRet (cB true))
 mSkip
def C_is_journal_wrong_1 : EX := eLc [3] (bName 3) bYes (eOr (eB2 dGe (gV 3) (eC dLen (aCons (gV 2) aN))) (eIsN (eB2 dIx (gV 2) (gV 3)))) (iT (eF (gV 1)))
def B_is_journal_wrong : SM := (mSeq (mSet (bName 1) (eF (eB2 dIx (gV 0) (cI 4))))
 (mSeq (mSet (bName 2) (eF (eB2 dIx (gV 0) (cI 5))))
 (mSeq I_is_journal_wrong_1
 (mRet (eC dAny (aCons C_is_journal_wrong_1 aN))))))
def F_is_journal_wrong : List D → List D → R D := fnP 4 B_is_journal_wrong
abbrev st_root_words : Stmt := top 3
def N_root_words : List Str := ["scan", "block", "root", "blocks", "mapped", "place", "numbers", "words", "number"]
def C_root_words_1 : EX := eLc [5] (bName 5) (bOf (eNotN (gV 5))) (eF (gV 5)) (iT (eF (eB2 dIx (gV 2) (cI 5))))
def I_root_words_1 : SM := mIf (bOf (eB2 dNe (eC dLen (aCons (eB2 dIx (gV 2) (cI 5)) aN)) (gV 3)))
 (mApp 7 (cS "map length"))
 mSkip
def I_root_words_2 : SM := mIf (bOf (eB2 dNe (eC dLen (aCons (eB2 dIx (gV 2) (cI 6)) aN)) (gV 3)))
 (mApp 7 (cS "erases length"))
 mSkip
def C_root_words_2 : EX := eLc [8] (bName 8) bYes (eB2 dGe (gV 8) (gV 3)) (iP (gV 6))
def I_root_words_3 : SM := mIf (bOf (eC dAny (aCons C_root_words_2 aN)))
 (mApp 7 (cS "block number"))
 mSkip
def I_root_words_4 : SM := mIf (bOf (eB2 dNe (eU dLenSet (gV 4)) (eC dLen (aCons (gV 4) aN))))
 (mApp 7 (cS "map twice"))
 mSkip
def I_root_words_5 : SM := mIf (bOf (eB2 (dIn false) (gV 1) (gV 4)))
 (mApp 7 (cS "anchor mapped"))
 mSkip
def I_root_words_6 : SM := mIf (bOf (eCall 1 F_is_journal_wrong (aCons (eF (gV 2)) aN)))
 (mApp 7 (cS "journal"))
 mSkip
def B_root_words : SM := (mSeq (mSet (bName 3) (eC dLen (aCons (gV 0) aN)))
 (mSeq (mSet (bName 4) C_root_words_1)
 (mSeq (mSet (bName 6) (eB2 addL (eB2 addL (gV 4) (eC dList (aCons (eB2 dIx (gV 2) (cI 4)) aN))) (eC dList (aCons (eB2 dIx (gV 2) (cI 7)) aN))))
 (mSeq (mSet (bName 7) (eLst aN))
 (mSeq I_root_words_1
 (mSeq I_root_words_2
 (mSeq I_root_words_3
 (mSeq I_root_words_4
 (mSeq I_root_words_5
 (mSeq I_root_words_6
 (mRetV 7)))))))))))
def F_root_words : List D → List D → R D := fnP 9 B_root_words
abbrev st_root_defects : Stmt := top 4
def N_root_defects : List Str := ["scan", "block", "root", "page", "word"]
def C_root_defects_1 : EX := eLc [4] (bName 4) bYes (eTup (aCons (eF (gV 1)) (aCons (eF (gV 3)) (aCons (eF (gV 4)) aN)))) (iL (eFz (eCall 3 F_root_words (aCons (eF (gV 0)) (aCons (eF (gV 1)) (aCons (eF (gV 2)) aN))))))
def B_root_defects : SM := (mSeq (mSet (bName 3) (eCall 3 F_root_page (aCons (eF (gV 0)) (aCons (eF (gV 1)) (aCons (eF (gV 2)) aN)))))
 (mRet C_root_defects_1))
def F_root_defects : List D → List D → R D := fnP 5 B_root_defects
abbrev st__law_draws : Stmt := top 6
def N__law_draws : List Str := ["_law_script", "_law_count", "_law_draws_here", "_law_k", "_law_cell"]
def I__law_draws_1 : SM := mIf (bOf (eB2 dGt (eC dLen (aCons (gV 0) aN)) (cI 0)))
 (mSet (bName 4) (eC dInt (aCons (eB2 dIx (gV 0) (eB2 dMod (eC dInt (aCons (gV 3) aN)) (eC dLen (aCons (gV 0) aN)))) aN)))
 mSkip
def I__law_draws_2 : SM := mIf (bOf (eB2 dLt (gV 4) (cI 0)))
 (mSet (bName 4) (eB2 dSub (cI 1) (eB2 dMul (cI 2) (gV 4))))
 mSkip
def I__law_draws_3 : SM := mIf (bOr (bOf (eB2 dGe (gV 3) (eC dLen (aCons (gV 0) aN)))) (bOf (eB2 dLt (gV 4) (cI 1000000000))))
 (mSeq (mSet (bName 4) (eB2 dMod (eC dInt (aCons (eB2 addI (eB2 dMul (eB2 addI (eB2 addI (gV 4) (eB2 dMul (cI 97) (gV 3))) (cI 5)) (cI 69069)) (eB2 dMul (eB2 dMul (gV 3) (gV 3)) (cI 40692))) aN)) (cI 2147483399)))
 (mSet (bName 4) (eB2 dMod (eC dInt (aCons (eB2 dMul (eB2 addI (eB2 addI (gV 4) (eB2 dMul (cI 13) (gV 3))) (cI 1)) (cI 6364136223846793005)) aN)) (cI 18446744073709551533))))
 mSkip
def L__law_draws_1 : SM := (mSeq (mSet (bName 4) (cI 0))
 (mSeq I__law_draws_1
 (mSeq I__law_draws_2
 (mSeq I__law_draws_3
 (mApp 2 (eF (gV 4)))))))
def B__law_draws : SM := (mSeq (mSet (bName 2) (eLst aN))
 (mSeq (mFor (i1 (aCons (gV 1) aN)) (bName 3) L__law_draws_1)
 (mRetV 2)))
def F__law_draws : List D → List D → R D := fnP 5 B__law_draws
abbrev st__law_places : Stmt := top 7
def N__law_places : List Str := ["_law_draw", "_law_places_here", "_law_cell", "_law_j", "_law_digit"]
def I__law_places_1 : SM := mIf (bOf (eB2 dEq (gV 4) (cI 24)))
 (mApp 1 (eB2 dMod (eC dInt (aCons (eB2 dDiv (gV 2) (cI 7)) aN)) (cI 30)))
 (mApp 1 cN)
def I__law_places_2 : SM := mIf (bOf (eB2 dLt (gV 4) (cI 24)))
 (mApp 1 (eF (gV 3)))
 I__law_places_1
def L__law_places_1 : SM := (mSeq (mSet (bName 2) (eB2 dMod (eC dInt (aCons (eB2 addI (eB2 addI (eB2 dMul (gV 2) (cI 69069)) (eB2 dMul (cI 7) (gV 3))) (cI 11)) aN)) (cI 18446744073709551533)))
 (mSeq (mSet (bName 4) (eB2 dMod (eC dInt (aCons (eB2 dDiv (gV 2) (cI 1000)) aN)) (cI 40)))
 I__law_places_2))
def C__law_places_1 : EX := eLc [3] (bName 3) (bOf (eB2 dLt (gV 3) (cI 24))) (eF (eB2 dIx (gV 1) (gV 3))) (i1 (aCons (eC dLen (aCons (gV 1) aN)) aN))
def I__law_places_3 : SM := mIf (bOf (eB2 dGt (eB2 dMod (eC dInt (aCons (eB2 dDiv (gV 0) (cI 5)) aN)) (cI 4)) (cI 0)))
 (mSeq (mSet (bName 1) (eB2 addL C__law_places_1 (eB2 dRepL (eLst (aCons cN aN)) (cI 4))))
 (mRet (eC dTuple (aCons (eSl slL (gV 1) oNo (oSo (cI 24))) aN))))
 mSkip
def B__law_places : SM := (mSeq (mSet (bName 1) (eLst aN))
 (mSeq (mSet (bName 2) (eC dInt (aCons (eB2 dDiv (gV 0) (cI 64)) aN)))
 (mSeq (mFor (i1 (aCons (eB2 addI (cI 22) (eB2 dMod (eC dInt (aCons (gV 0) aN)) (cI 5))) aN)) (bName 3) L__law_places_1)
 (mSeq I__law_places_3
 (mRet (eC dTuple (aCons (gV 1) aN)))))))
def F__law_places : List D → List D → R D := fnP 5 B__law_places
abbrev st__law_root : Stmt := top 8
def N__law_root : List Str := ["_law_draws_here", "_law_places_here", "_law_erases", "_law_rest", "_law_journal", "_law_j", "_law_bad"]
def C__law_root_1 : EX := eLc [5] (bName 5) bYes (eB2 dMod (eC dInt (aCons (eB2 dDiv (gV 3) (eB2 addI (gV 5) (cI 1))) aN)) (cI 26)) (i1 (aCons (eB2 dIx (eLst (aCons (cI 2) (aCons (cI 2) (aCons (cI 2) (aCons (cI 0) (aCons (cI 3) aN)))))) (eB2 dMod (eC dInt (aCons (eB2 dDiv (gV 3) (cI 7)) aN)) (cI 5))) aN))
def C__law_root_2 : EX := eLc [5] (bName 5) bYes (eB2 dMod (eC dInt (aCons (eB2 dDiv (eB2 dIx (gV 0) (cI 2)) (eB2 addI (gV 5) (cI 3))) aN)) (cI 25)) (i1 (aCons (eB2 dMod (eC dInt (aCons (eB2 dIx (gV 0) (cI 2)) aN)) (cI 5)) aN))
def B__law_root : SM := (mSeq (mSet (bName 1) (eCall 1 F__law_places (aCons (eF (eB2 dIx (gV 0) (cI 0))) aN)))
 (mSeq (mSet (bName 2) (eB2 dRepT (eTup (aCons (cI 1) aN)) (eB2 dIx (eLst (aCons (cI 24) (aCons (cI 24) (aCons (cI 24) (aCons (cI 23) (aCons (cI 25) aN)))))) (eB2 dMod (eC dInt (aCons (eB2 dIx (gV 0) (cI 1)) aN)) (cI 5)))))
 (mSeq (mSet (bName 3) (eB2 dDiv (eB2 dIx (gV 0) (cI 1)) (cI 5)))
 (mSeq (mSet (bName 4) (eC dTuple (aCons C__law_root_1 aN)))
 (mSeq (mSet (bName 6) (eC dTuple (aCons C__law_root_2 aN)))
 (mRet (eTup (aCons (cS "root") (aCons (eB2 addI (cI 1) (eB2 dMod (eC dInt (aCons (eB2 dIx (gV 0) (cI 3)) aN)) (cI 5))) (aCons (cI 7) (aCons cN (aCons (eF (gV 4)) (aCons (eF (gV 1)) (aCons (eF (gV 2)) (aCons (eF (gV 6)) aN)))))))))))))))
def F__law_root : List D → List D → R D := fnP 7 B__law_root
abbrev st__law_words : Stmt := top 9
def N__law_words : List Str := ["_law_root_here", "_law_block", "_law_places_here", "_law_numbers", "_law_place", "_law_words_here", "_law_number", "_law_j", "_law_logical"]
def C__law_words_1 : EX := eLc [4] (bName 4) (bOf (eNotN (gV 4))) (eF (gV 4)) (iT (eF (gV 2)))
def I__law_words_1 : SM := mIf (bOf (eB2 dNe (eC dLen (aCons (gV 2) aN)) (cI 24)))
 (mApp 5 (cS "map length"))
 mSkip
def I__law_words_2 : SM := mIf (bOf (eB2 dNe (eC dLen (aCons (eB2 dIx (gV 0) (cI 6)) aN)) (cI 24)))
 (mApp 5 (cS "erases length"))
 mSkip
def C__law_words_2 : EX := eLc [6] (bName 6) (bOf (eB2 dGe (gV 6) (cI 24))) (eF (gV 6)) (iL (eFz (eB2 addL (eB2 addL (gV 3) (eC dList (aCons (eB2 dIx (gV 0) (cI 4)) aN))) (eC dList (aCons (eB2 dIx (gV 0) (cI 7)) aN)))))
def I__law_words_3 : SM := mIf (bOf (eB2 dGt (eC dLen (aCons C__law_words_2 aN)) (cI 0)))
 (mApp 5 (cS "block number"))
 mSkip
def I__law_words_4 : SM := mIf (bAnd (bOf (eB2 (dIn false) (eB2 dIx (gV 3) (gV 7)) (eSl slL (gV 3) oNo (oSo (gV 7))))) (bOf (eB2 (dIn true) (cS "map twice") (gV 5))))
 (mApp 5 (cS "map twice"))
 mSkip
def L__law_words_1 : SM := I__law_words_4
def I__law_words_5 : SM := mIf (bOf (eB2 (dIn false) (gV 1) (gV 3)))
 (mApp 5 (cS "anchor mapped"))
 mSkip
def I__law_words_6 : SM := mIf (bOr (bOf (eB2 (dIn false) (gV 8) (eSl slT (eB2 dIx (gV 0) (cI 4)) oNo (oSo (gV 7))))) (bOr (bOf (eB2 dGe (gV 8) (eC dLen (aCons (gV 2) aN)))) (bOf (eIsN (eB2 dIx (gV 2) (gV 8))))))
 (mApp 5 (cS "journal"))
 mSkip
def I__law_words_7 : SM := mIf (bOf (eB2 (dIn true) (cS "journal") (gV 5)))
 I__law_words_6
 mSkip
def L__law_words_2 : SM := (mSeq (mSet (bName 8) (eF (eB2 dIx (eB2 dIx (gV 0) (cI 4)) (gV 7))))
 I__law_words_7)
def B__law_words : SM := (mSeq (mSet (bName 2) (eF (eB2 dIx (gV 0) (cI 5))))
 (mSeq (mSet (bName 3) C__law_words_1)
 (mSeq (mSet (bName 5) (eLst aN))
 (mSeq I__law_words_1
 (mSeq I__law_words_2
 (mSeq I__law_words_3
 (mSeq (mFor (i1 (aCons (eC dLen (aCons (gV 3) aN)) aN)) (bName 7) L__law_words_1)
 (mSeq I__law_words_5
 (mSeq (mFor (i1 (aCons (eC dLen (aCons (eB2 dIx (gV 0) (cI 4)) aN)) aN)) (bName 7) L__law_words_2)
 (mRetV 5))))))))))
def F__law_words : List D → List D → R D := fnP 9 B__law_words
abbrev st_law : Stmt := top 10
def N_law : List Str := ["_law_script", "_law_draws_here", "_law_k", "_law_root_here", "_law_block", "_law_scan", "_law_j", "_law_first", "_law_page", "_law_due", "_law_kept", "_law_told", "_law_other", "_law_word"]
def L_law_1 : SM := (mApp 5 (eLst (aCons (eTup (aCons (cS "blank") aN)) (aCons (eTup (aCons (cS "damaged") aN)) (aCons (eTup (aCons (cS "right") (aCons (eTup (aCons (cS "mark") (aCons (cI 3) aN))) aN))) (aCons (eTup (aCons (cS "blank") aN)) aN))))))
def I_law_1 : SM := mIf (bAnd (bOf (eB2 dLt (gV 8) (gV 7))) (bOf (eB2 dEq (eB2 dMod (eC dInt (aCons (eB2 dDiv (eB2 dIx (gV 1) (eB2 addI (cI 32) (gV 2))) (cI 96)) aN)) (cI 2)) (cI 0))))
 (mPut2 5 (eF (gV 4)) (eF (gV 8)) (eTup (aCons (cS "right") (aCons (eF (gV 12)) aN))))
 mSkip
def I_law_2 : SM := mIf (bAnd (bOf (eB2 dGt (gV 8) (gV 7))) (bOf (eB2 dEq (eB2 dMod (eC dInt (aCons (eB2 dDiv (eB2 dIx (gV 1) (eB2 addI (cI 32) (gV 2))) (cI 192)) aN)) (cI 2)) (cI 0))))
 (mPut2 5 (eF (gV 4)) (eF (gV 8)) (eTup (aCons (cS "right") (aCons (eF (gV 3)) aN))))
 mSkip
def L_law_2 : SM := (mSeq (mSet (bName 12) (eTup (aCons (cS "root") (aCons (eB2 addI (eB2 addI (eB2 dIx (gV 3) (cI 1)) (cI 1)) (gV 8)) (aCons (cI 7) (aCons cN (aCons (eTup aN) (aCons (eTup aN) (aCons (eTup aN) (aCons (eTup aN) aN))))))))))
 (mSeq I_law_1
 I_law_2))
def C_law_1 : EX := eLc [13] (bName 13) bYes (eTup (aCons (eF (gV 4)) (aCons (eF (gV 7)) (aCons (eF (gV 13)) aN)))) (iL (eFz (eCall 2 F__law_words (aCons (eF (gV 3)) (aCons (eF (gV 4)) aN)))))
def I_law_3 : SM := mIf (bOr (bNot (bOf (eU (dIsi "list") (gV 11)))) (bOr (bOf (eB2 dNe (gV 11) (gV 9))) (bOf (eB2 dNeF (eC dRepr (aCons (gV 5) aN)) (gV 10)))))
 (mRet (cB false))
 mSkip
def L_law_3 : SM := (mSeq (mSet (bName 3) (eCall 1 F__law_root (aCons (eFz (eSl slL (gV 1) (oSo (eB2 dMul (cI 4) (gV 2))) (oSo (eB2 addI (eB2 dMul (cI 4) (gV 2)) (cI 4))))) aN)))
 (mSeq (mSet (bName 4) (eB2 dMod (eC dInt (aCons (eB2 dIx (gV 1) (eB2 addI (cI 32) (gV 2))) aN)) (cI 24)))
 (mSeq (mSet (bName 5) (eLst aN))
 (mSeq (mFor (i1 (aCons (cI 24) aN)) (bName 6) L_law_1)
 (mSeq (mSet (bName 7) (eB2 dMod (eC dInt (aCons (eB2 dDiv (eB2 dIx (gV 1) (eB2 addI (cI 32) (gV 2))) (cI 24)) aN)) (cI 4)))
 (mSeq (mPut2 5 (eF (gV 4)) (eF (gV 7)) (eTup (aCons (cS "right") (aCons (eF (gV 3)) aN))))
 (mSeq (mFor (i1 (aCons (cI 4) aN)) (bName 8) L_law_2)
 (mSeq (mSet (bName 9) C_law_1)
 (mFrz 5 (mSeq (mSet (bName 10) (eC dRepr (aCons (gV 5) aN)))
 (mSeq (mSet (bName 11) (eCall 3 F_root_defects (aCons (eF (gV 5)) (aCons (eF (gV 4)) (aCons (eF (gV 3)) aN)))))
 I_law_3)))))))))))
def B_law : SM := (mSeq (mSet (bName 1) (eCall 2 F__law_draws (aCons (eF (gV 0)) (aCons (cI 40) aN))))
 (mSeq (mFor (i1 (aCons (cI 8) aN)) (bName 2) L_law_3)
 (mRet (cB true))))
structure Blt (mg : Str → Option Value) : Prop where
  b_enumerate : mg "enumerate" = none
  b_len : mg "len" = none
  b_set : mg "set" = none
  b_any : mg "any" = none
  b_list : mg "list" = none
  b_range : mg "range" = none
  b_int : mg "int" = none
  b_tuple : mg "tuple" = none
  b_repr : mg "repr" = none
  b_isinstance : mg "isinstance" = none

section
variable {P : Program} {w : World} {K : PySem.W.Frag} {mg : Str → Option Value} {base h : Heap} {tb : Tb}
theorem sc_root_page : FnScope N_root_page ["scan", "block", "root"] (defScope st_root_page) := ⟨rfl, rfl, rfl, by decide +kernel, rfl, by decide +kernel, by decide +kernel⟩
theorem red_root_page (bl : Blt mg)  (f : Addr) (cdv : Value) (A : Around) (outer : List Env) (s : Shared) (H : Hp) (E : XK) (T : Tm.Act) (hr : Room 0 (A.deeper (PyProof.Rows.envOfC "root_page" (defScope st_root_page) s.heap.objs.size f cdv)))
    (tk : Takes (cxOf (L2.CX P w) P w K mg base N_root_page "root_page" (defScope st_root_page) f cdv A outer s H E) (fun cls d _ H => E cls d H)) (hp : ∀ c, c = cxOf (L2.CX P w) P w K mg base N_root_page "root_page" (defScope st_root_page) f cdv A outer s H E → PassesOwn (model c.prog c.w) c.A c.env c.xe) :
    PSs (cxOf (L2.CX P w) P w K mg base N_root_page "root_page" (defScope st_root_page) f cdv A outer s H E) (defBody st_root_page) (tSt K tb (fun cls d _ H => E cls d H) T B_root_page) := by
  unfold B_root_page
  exact (mConsR (mForR (hp _ rfl) rfl (sEnum bl.b_enumerate (paCons (pk_of_vl (pIx (pVar 0) (pVar 1))) paNil)) (pg_tup rfl (pgs_cons (pg_name (i := 3) sc_root_page.nd rfl (.inl rfl)) (pgs_cons (pg_name (i := 4) sc_root_page.nd rfl (.inl rfl)) pgs_nil))) (tgTup [3, 4])
 (mOneR (mIfR (PW.pt (bAndC (bEq hr (pIx (pVar 4) (toPk vInt)) (toPk vStr)) (bAndC (bEq hr (pIx (pIx (pVar 4) (toPk vInt)) (toPk vInt)) (toPk vStr)) (bAnd1 (bEq hr (pIx (pIx (pVar 4) (toPk vInt)) (toPk vInt)) (pIx (pVar 2) (toPk vInt)))))))
 (mOneR (mRetR (toFr (pk_of_vl (pVar 3)))))
 mNilR)))
 (mOneR (mRetR (toFr vInt))))
theorem own_root_page (bl : Blt mg) (inS : K.In h) (G : h.Ns mainGlobals mg)  (D : Dfd K "root_page" st_root_page) : Own P w K mg base tb 1 "root_page" 3 F_root_page :=
  D.own inS G sc_root_page (fun _ _ _ _ _ _ us hl => match us, hl with | [_, _, _], _ => rfl) (red_root_page bl )
theorem sc_is_journal_wrong : FnScope N_is_journal_wrong ["root"] (defScope st_is_journal_wrong) := ⟨rfl, rfl, rfl, by decide +kernel, rfl, by decide +kernel, by decide +kernel⟩
theorem red_is_journal_wrong (bl : Blt mg)  (f : Addr) (cdv : Value) (A : Around) (outer : List Env) (s : Shared) (H : Hp) (E : XK) (T : Tm.Act) (hr : Room 0 (A.deeper (PyProof.Rows.envOfC "is_journal_wrong" (defScope st_is_journal_wrong) s.heap.objs.size f cdv)))
    (tk : Takes (cxOf (L2.CX P w) P w K mg base N_is_journal_wrong "is_journal_wrong" (defScope st_is_journal_wrong) f cdv A outer s H E) (fun cls d _ H => E cls d H)) (hp : ∀ c, c = cxOf (L2.CX P w) P w K mg base N_is_journal_wrong "is_journal_wrong" (defScope st_is_journal_wrong) f cdv A outer s H E → PassesOwn (model c.prog c.w) c.A c.env c.xe) :
    PSs (cxOf (L2.CX P w) P w K mg base N_is_journal_wrong "is_journal_wrong" (defScope st_is_journal_wrong) f cdv A outer s H E) (defBody st_is_journal_wrong) (tSt K tb (fun cls d _ H => E cls d H) T B_is_journal_wrong) := by
  unfold B_is_journal_wrong
  exact (mConsR (mAsg 1 (toFr (pk_of_vl (pIx (pVar 0) (toPk vInt)))) sc_is_journal_wrong.nd)
 (mConsR (mAsg 2 (toFr (pk_of_vl (pIx (pVar 0) (toPk vInt)))) sc_is_journal_wrong.nd)
 (mConsR (mIfR (bNe hr (toPk (vLenSet bl.b_len bl.b_set (pVar 1))) (toPk (vLen bl.b_len (ppCons (pVar 1) ppNil))))
 (mOneR (mRetR (toFr vBl)))
 mNilR)
 (mOneR (mRetR (toFr (vAnyC rfl bl.b_any (ppCons (frPk (fLc (own := [("logical", 3)]) rfl sc_is_journal_wrong.nd (sTup (pk_of_vl (pVar 1))) (blkOk_by (N := N_is_journal_wrong) (sc := defScope st_is_journal_wrong) (by decide +kernel)) (fun _ _ _ _ _ => pg_name (i := 3) sc_is_journal_wrong.nd rfl (.inl rfl)) (tgNameW (by decide)) (fun _ _ _ _ _ => ptsYes) (fun _ _ _ _ _ => (vOrB (vGe (pVar 3) (toPk (vLen bl.b_len (ppCons (pVar 2) ppNil)))) (vOne (vIsN (pIx (pVar 2) (pVar 3)))))))) ppNil))))))))
theorem own_is_journal_wrong (bl : Blt mg) (inS : K.In h) (G : h.Ns mainGlobals mg)  (D : Dfd K "is_journal_wrong" st_is_journal_wrong) : Own P w K mg base tb 1 "is_journal_wrong" 1 F_is_journal_wrong :=
  D.own inS G sc_is_journal_wrong (fun _ _ _ _ _ _ us hl => match us, hl with | [_], _ => rfl) (red_is_journal_wrong bl )
theorem sc_root_words : FnScope N_root_words ["scan", "block", "root"] (defScope st_root_words) := ⟨rfl, rfl, rfl, by decide +kernel, rfl, by decide +kernel, by decide +kernel⟩
theorem red_root_words (bl : Blt mg) (g_is_journal_wrong : Own P w K mg base tb 1 "is_journal_wrong" 1 F_is_journal_wrong) (f : Addr) (cdv : Value) (A : Around) (outer : List Env) (s : Shared) (H : Hp) (E : XK) (T : Tm.Act) (hr : Room 1 (A.deeper (PyProof.Rows.envOfC "root_words" (defScope st_root_words) s.heap.objs.size f cdv)))
    (tk : Takes (cxOf (L2.CX P w) P w K mg base N_root_words "root_words" (defScope st_root_words) f cdv A outer s H E) (fun cls d _ H => E cls d H)) (hp : ∀ c, c = cxOf (L2.CX P w) P w K mg base N_root_words "root_words" (defScope st_root_words) f cdv A outer s H E → PassesOwn (model c.prog c.w) c.A c.env c.xe) :
    PSs (cxOf (L2.CX P w) P w K mg base N_root_words "root_words" (defScope st_root_words) f cdv A outer s H E) (defBody st_root_words) (tSt K tb (fun cls d _ H => E cls d H) T B_root_words) := by
  unfold B_root_words
  exact (mConsR (mAsg 3 (toFr (vLen bl.b_len (ppCons (pVar 0) ppNil))) sc_root_words.nd)
 (mConsR (mAsgLc 4 (own := [("place", 5)]) rfl sc_root_words.nd (by rfl) (sTup (pk_of_vl (pIx (pVar 2) (toPk vInt)))) (blkOk_by (N := N_root_words) (sc := defScope st_root_words) (by decide +kernel)) (fun _ _ _ _ _ => pg_name (i := 5) sc_root_words.nd rfl (.inl rfl)) (tgNameW (by decide)) (fun _ _ _ _ _ => ptsOne (bNotN (pVar 5))) (fun _ _ _ _ _ => (pk_of_vl (pVar 5))))
 (mConsR (mAsg 6 (fAddL (frPk (fAddL (pVar 4) (frPk (fListC bl.b_list (ppCons (pIx (pVar 2) (toPk vInt)) ppNil))))) (frPk (fListC bl.b_list (ppCons (pIx (pVar 2) (toPk vInt)) ppNil)))) sc_root_words.nd)
 (mConsR (mAsg 7 (fLst paNil) sc_root_words.nd)
 (mConsR (mIfR (bNe hr (toPk (vLen bl.b_len (ppCons (pIx (pVar 2) (toPk vInt)) ppNil))) (pVar 3))
 (mOneR (mAppR 7 (toFr vStr)))
 mNilR)
 (mConsR (mIfR (bNe hr (toPk (vLen bl.b_len (ppCons (pIx (pVar 2) (toPk vInt)) ppNil))) (pVar 3))
 (mOneR (mAppR 7 (toFr vStr)))
 mNilR)
 (mConsR (mIfR (bVal (toPk (vAnyC rfl bl.b_any (ppCons (frPk (fLc (own := [("number", 8)]) rfl sc_root_words.nd (sListP (pVar 6)) (blkOk_by (N := N_root_words) (sc := defScope st_root_words) (by decide +kernel)) (fun _ _ _ _ _ => pg_name (i := 8) sc_root_words.nd rfl (.inl rfl)) (tgNameW (by decide)) (fun _ _ _ _ _ => ptsYes) (fun _ _ _ _ _ => (vGe (pVar 8) (pVar 3))))) ppNil))))
 (mOneR (mAppR 7 (toFr vStr)))
 mNilR)
 (mConsR (mIfR (bNe hr (toPk (vLenSet bl.b_len bl.b_set (pVar 4))) (toPk (vLen bl.b_len (ppCons (pVar 4) ppNil))))
 (mOneR (mAppR 7 (toFr vStr)))
 mNilR)
 (mConsR (mIfR (bIn (pVar 1) (pVar 4))
 (mOneR (mAppR 7 (toFr vStr)))
 mNilR)
 (mConsR (mIfR (bVal (frPk (fCallO g_is_journal_wrong hr (by decide) tk (paCons (pk_of_vl (pVar 2)) paNil))))
 (mOneR (mAppR 7 (toFr vStr)))
 mNilR)
 (mOneR (mRetVR 7))))))))))))
theorem own_root_words (bl : Blt mg) (inS : K.In h) (G : h.Ns mainGlobals mg) (g_is_journal_wrong : Own P w K mg base tb 1 "is_journal_wrong" 1 F_is_journal_wrong) (D : Dfd K "root_words" st_root_words) : Own P w K mg base tb 2 "root_words" 3 F_root_words :=
  D.own inS G sc_root_words (fun _ _ _ _ _ _ us hl => match us, hl with | [_, _, _], _ => rfl) (red_root_words bl g_is_journal_wrong)
theorem sc_root_defects : FnScope N_root_defects ["scan", "block", "root"] (defScope st_root_defects) := ⟨rfl, rfl, rfl, by decide +kernel, rfl, by decide +kernel, by decide +kernel⟩
theorem red_root_defects (bl : Blt mg) (g_root_page : Own P w K mg base tb 1 "root_page" 3 F_root_page) (g_root_words : Own P w K mg base tb 2 "root_words" 3 F_root_words) (f : Addr) (cdv : Value) (A : Around) (outer : List Env) (s : Shared) (H : Hp) (E : XK) (T : Tm.Act) (hr : Room 2 (A.deeper (PyProof.Rows.envOfC "root_defects" (defScope st_root_defects) s.heap.objs.size f cdv)))
    (tk : Takes (cxOf (L2.CX P w) P w K mg base N_root_defects "root_defects" (defScope st_root_defects) f cdv A outer s H E) (fun cls d _ H => E cls d H)) (hp : ∀ c, c = cxOf (L2.CX P w) P w K mg base N_root_defects "root_defects" (defScope st_root_defects) f cdv A outer s H E → PassesOwn (model c.prog c.w) c.A c.env c.xe) :
    PSs (cxOf (L2.CX P w) P w K mg base N_root_defects "root_defects" (defScope st_root_defects) f cdv A outer s H E) (defBody st_root_defects) (tSt K tb (fun cls d _ H => E cls d H) T B_root_defects) := by
  unfold B_root_defects
  exact (mConsR (mAsg 3 (fCallO g_root_page hr (by decide) tk (paCons (pk_of_vl (pVar 0)) (paCons (pk_of_vl (pVar 1)) (paCons (pk_of_vl (pVar 2)) paNil)))) sc_root_defects.nd)
 (mOneR (mRetR (fLc (own := [("word", 4)]) rfl sc_root_defects.nd (sList (frVl (fCallO g_root_words hr (by decide) tk (paCons (pk_of_vl (pVar 0)) (paCons (pk_of_vl (pVar 1)) (paCons (pk_of_vl (pVar 2)) paNil)))))) (blkOk_by (N := N_root_defects) (sc := defScope st_root_defects) (by decide +kernel)) (fun _ _ _ _ _ => pg_name (i := 4) sc_root_defects.nd rfl (.inl rfl)) (tgNameW (by decide)) (fun _ _ _ _ _ => ptsYes) (fun _ _ _ _ _ => (vTup (paCons (pk_of_vl (pVar 1)) (paCons (pk_of_vl (pVar 3)) (paCons (pk_of_vl (pVar 4)) paNil)))))))))
theorem own_root_defects (bl : Blt mg) (inS : K.In h) (G : h.Ns mainGlobals mg) (g_root_page : Own P w K mg base tb 1 "root_page" 3 F_root_page) (g_root_words : Own P w K mg base tb 2 "root_words" 3 F_root_words) (D : Dfd K "root_defects" st_root_defects) : Own P w K mg base tb 3 "root_defects" 3 F_root_defects :=
  D.own inS G sc_root_defects (fun _ _ _ _ _ _ us hl => match us, hl with | [_, _, _], _ => rfl) (red_root_defects bl g_root_page g_root_words)
theorem sc__law_draws : FnScope N__law_draws ["_law_script", "_law_count"] (defScope st__law_draws) := ⟨rfl, rfl, rfl, by decide +kernel, rfl, by decide +kernel, by decide +kernel⟩
theorem red__law_draws (bl : Blt mg)  (f : Addr) (cdv : Value) (A : Around) (outer : List Env) (s : Shared) (H : Hp) (E : XK) (T : Tm.Act) (hr : Room 0 (A.deeper (PyProof.Rows.envOfC "_law_draws" (defScope st__law_draws) s.heap.objs.size f cdv)))
    (tk : Takes (cxOf (L2.CX P w) P w K mg base N__law_draws "_law_draws" (defScope st__law_draws) f cdv A outer s H E) (fun cls d _ H => E cls d H)) (hp : ∀ c, c = cxOf (L2.CX P w) P w K mg base N__law_draws "_law_draws" (defScope st__law_draws) f cdv A outer s H E → PassesOwn (model c.prog c.w) c.A c.env c.xe) :
    PSs (cxOf (L2.CX P w) P w K mg base N__law_draws "_law_draws" (defScope st__law_draws) f cdv A outer s H E) (defBody st__law_draws) (tSt K tb (fun cls d _ H => E cls d H) T B__law_draws) := by
  unfold B__law_draws
  exact (mConsR (mAsg 2 (fLst paNil) sc__law_draws.nd)
 (mConsR (mForR (hp _ rfl) rfl (sRng1 bl.b_range (ppCons (pVar 1) ppNil)) (pg_name (i := 3) sc__law_draws.nd rfl (.inl rfl)) (tgName 3)
 (mConsR (mAsg 4 (toFr vInt) sc__law_draws.nd)
 (mConsR (mIfR (bGt (toPk (vLen bl.b_len (ppCons (pVar 0) ppNil))) (toPk vInt))
 (mOneR (mAsg 4 (toFr (vIntC bl.b_int (ppCons (pIx (pVar 0) (toPk (vMod (toPk (vIntC bl.b_int (ppCons (pVar 3) ppNil))) (toPk (vLen bl.b_len (ppCons (pVar 0) ppNil)))))) ppNil))) sc__law_draws.nd))
 mNilR)
 (mConsR (mIfR (bLt (pVar 4) (toPk vInt))
 (mOneR (mAsg 4 (toFr (vSub (toPk vInt) (toPk (vMul (toPk vInt) (pVar 4))))) sc__law_draws.nd))
 mNilR)
 (mConsR (mIfR (PW.pt (bOrC (bGe (pVar 3) (toPk (vLen bl.b_len (ppCons (pVar 0) ppNil)))) (bOr1 (bLt (pVar 4) (toPk vInt)))))
 (mConsR (mAsg 4 (toFr (vMod (toPk (vIntC bl.b_int (ppCons (toPk (vAdd (toPk (vMul (toPk (vAdd (toPk (vAdd (pVar 4) (toPk (vMul (toPk vInt) (pVar 3))))) (toPk vInt))) (toPk vInt))) (toPk (vMul (toPk (vMul (pVar 3) (pVar 3))) (toPk vInt))))) ppNil))) (toPk vInt))) sc__law_draws.nd)
 (mOneR (mAsg 4 (toFr (vMod (toPk (vIntC bl.b_int (ppCons (toPk (vMul (toPk (vAdd (toPk (vAdd (pVar 4) (toPk (vMul (toPk vInt) (pVar 3))))) (toPk vInt))) (toPk vInt))) ppNil))) (toPk vInt))) sc__law_draws.nd)))
 mNilR)
 (mOneR (mAppR 2 (toFr (pk_of_vl (pVar 4))))))))))
 (mOneR (mRetVR 2))))
theorem own__law_draws (bl : Blt mg) (inS : K.In h) (G : h.Ns mainGlobals mg)  (D : Dfd K "_law_draws" st__law_draws) : Own P w K mg base tb 1 "_law_draws" 2 F__law_draws :=
  D.own inS G sc__law_draws (fun _ _ _ _ _ _ us hl => match us, hl with | [_, _], _ => rfl) (red__law_draws bl )
theorem sc__law_places : FnScope N__law_places ["_law_draw"] (defScope st__law_places) := ⟨rfl, rfl, rfl, by decide +kernel, rfl, by decide +kernel, by decide +kernel⟩
theorem red__law_places (bl : Blt mg)  (f : Addr) (cdv : Value) (A : Around) (outer : List Env) (s : Shared) (H : Hp) (E : XK) (T : Tm.Act) (hr : Room 0 (A.deeper (PyProof.Rows.envOfC "_law_places" (defScope st__law_places) s.heap.objs.size f cdv)))
    (tk : Takes (cxOf (L2.CX P w) P w K mg base N__law_places "_law_places" (defScope st__law_places) f cdv A outer s H E) (fun cls d _ H => E cls d H)) (hp : ∀ c, c = cxOf (L2.CX P w) P w K mg base N__law_places "_law_places" (defScope st__law_places) f cdv A outer s H E → PassesOwn (model c.prog c.w) c.A c.env c.xe) :
    PSs (cxOf (L2.CX P w) P w K mg base N__law_places "_law_places" (defScope st__law_places) f cdv A outer s H E) (defBody st__law_places) (tSt K tb (fun cls d _ H => E cls d H) T B__law_places) := by
  unfold B__law_places
  exact (mConsR (mAsg 1 (fLst paNil) sc__law_places.nd)
 (mConsR (mAsg 2 (toFr (vIntC bl.b_int (ppCons (toPk (vDiv (pVar 0) (toPk vInt))) ppNil))) sc__law_places.nd)
 (mConsR (mForR (hp _ rfl) rfl (sRng1 bl.b_range (ppCons (toPk (vAdd (toPk vInt) (toPk (vMod (toPk (vIntC bl.b_int (ppCons (pVar 0) ppNil))) (toPk vInt))))) ppNil)) (pg_name (i := 3) sc__law_places.nd rfl (.inl rfl)) (tgName 3)
 (mConsR (mAsg 2 (toFr (vMod (toPk (vIntC bl.b_int (ppCons (toPk (vAdd (toPk (vAdd (toPk (vMul (pVar 2) (toPk vInt))) (toPk (vMul (toPk vInt) (pVar 3))))) (toPk vInt))) ppNil))) (toPk vInt))) sc__law_places.nd)
 (mConsR (mAsg 4 (toFr (vMod (toPk (vIntC bl.b_int (ppCons (toPk (vDiv (pVar 2) (toPk vInt))) ppNil))) (toPk vInt))) sc__law_places.nd)
 (mOneR (mIfR (bLt (pVar 4) (toPk vInt))
 (mOneR (mAppR 1 (toFr (pk_of_vl (pVar 3)))))
 (mOneR (mIfR (bEq hr (pVar 4) (toPk vInt))
 (mOneR (mAppR 1 (toFr (vMod (toPk (vIntC bl.b_int (ppCons (toPk (vDiv (pVar 2) (toPk vInt))) ppNil))) (toPk vInt)))))
 (mOneR (mAppR 1 (toFr vNon))))))))))
 (mConsR (mIfR (bGt (toPk (vMod (toPk (vIntC bl.b_int (ppCons (toPk (vDiv (pVar 0) (toPk vInt))) ppNil))) (toPk vInt))) (toPk vInt))
 (mConsR (mAsg 1 (fAddL (frPk (fLc (own := [("_law_j", 3)]) rfl sc__law_places.nd (sRng1 bl.b_range (ppCons (toPk (vLen bl.b_len (ppCons (pVar 1) ppNil))) ppNil)) (blkOk_by (N := N__law_places) (sc := defScope st__law_places) (by decide +kernel)) (fun _ _ _ _ _ => pg_name (i := 3) sc__law_places.nd rfl (.inl rfl)) (tgNameW (by decide)) (fun _ _ _ _ _ => ptsOne (bLt (pVar 3) (toPk vInt))) (fun _ _ _ _ _ => (pk_of_vl (pIx (pVar 1) (pVar 3)))))) (frPk (fRepL (frPk (fLst (paCons vNon paNil))) (toPk vInt)))) sc__law_places.nd)
 (mOneR (mRetR (toFr (vTupleC bl.b_tuple (ppCons (frPk (fSlL (pVar 1) poNo (poSo (toPk vInt)))) ppNil))))))
 mNilR)
 (mOneR (mRetR (toFr (vTupleC bl.b_tuple (ppCons (pVar 1) ppNil)))))))))
theorem own__law_places (bl : Blt mg) (inS : K.In h) (G : h.Ns mainGlobals mg)  (D : Dfd K "_law_places" st__law_places) : Own P w K mg base tb 1 "_law_places" 1 F__law_places :=
  D.own inS G sc__law_places (fun _ _ _ _ _ _ us hl => match us, hl with | [_], _ => rfl) (red__law_places bl )
theorem sc__law_root : FnScope N__law_root ["_law_draws_here"] (defScope st__law_root) := ⟨rfl, rfl, rfl, by decide +kernel, rfl, by decide +kernel, by decide +kernel⟩
theorem red__law_root (bl : Blt mg) (g__law_places : Own P w K mg base tb 1 "_law_places" 1 F__law_places) (f : Addr) (cdv : Value) (A : Around) (outer : List Env) (s : Shared) (H : Hp) (E : XK) (T : Tm.Act) (hr : Room 1 (A.deeper (PyProof.Rows.envOfC "_law_root" (defScope st__law_root) s.heap.objs.size f cdv)))
    (tk : Takes (cxOf (L2.CX P w) P w K mg base N__law_root "_law_root" (defScope st__law_root) f cdv A outer s H E) (fun cls d _ H => E cls d H)) (hp : ∀ c, c = cxOf (L2.CX P w) P w K mg base N__law_root "_law_root" (defScope st__law_root) f cdv A outer s H E → PassesOwn (model c.prog c.w) c.A c.env c.xe) :
    PSs (cxOf (L2.CX P w) P w K mg base N__law_root "_law_root" (defScope st__law_root) f cdv A outer s H E) (defBody st__law_root) (tSt K tb (fun cls d _ H => E cls d H) T B__law_root) := by
  unfold B__law_root
  exact (mConsR (mAsg 1 (fCallO g__law_places hr (by decide) tk (paCons (pk_of_vl (pIx (pVar 0) (toPk vInt))) paNil)) sc__law_root.nd)
 (mConsR (mAsg 2 (toFr (vRepT (toPk (vTup (paCons vInt paNil))) (pIx (frPk (fLst (paCons vInt (paCons vInt (paCons vInt (paCons vInt (paCons vInt paNil))))))) (toPk (vMod (toPk (vIntC bl.b_int (ppCons (pIx (pVar 0) (toPk vInt)) ppNil))) (toPk vInt)))))) sc__law_root.nd)
 (mConsR (mAsg 3 (toFr (vDiv (pIx (pVar 0) (toPk vInt)) (toPk vInt))) sc__law_root.nd)
 (mConsR (mAsg 4 (toFr (vTupleC bl.b_tuple (ppCons (frPk (fLc (own := [("_law_j", 5)]) rfl sc__law_root.nd (sRng1 bl.b_range (ppCons (pIx (frPk (fLst (paCons vInt (paCons vInt (paCons vInt (paCons vInt (paCons vInt paNil))))))) (toPk (vMod (toPk (vIntC bl.b_int (ppCons (toPk (vDiv (pVar 3) (toPk vInt))) ppNil))) (toPk vInt)))) ppNil)) (blkOk_by (N := N__law_root) (sc := defScope st__law_root) (by decide +kernel)) (fun _ _ _ _ _ => pg_name (i := 5) sc__law_root.nd rfl (.inl rfl)) (tgNameW (by decide)) (fun _ _ _ _ _ => ptsYes) (fun _ _ _ _ _ => (vMod (toPk (vIntC bl.b_int (ppCons (toPk (vDiv (pVar 3) (toPk (vAdd (pVar 5) (toPk vInt))))) ppNil))) (toPk vInt))))) ppNil))) sc__law_root.nd)
 (mConsR (mAsg 6 (toFr (vTupleC bl.b_tuple (ppCons (frPk (fLc (own := [("_law_j", 5)]) rfl sc__law_root.nd (sRng1 bl.b_range (ppCons (toPk (vMod (toPk (vIntC bl.b_int (ppCons (pIx (pVar 0) (toPk vInt)) ppNil))) (toPk vInt))) ppNil)) (blkOk_by (N := N__law_root) (sc := defScope st__law_root) (by decide +kernel)) (fun _ _ _ _ _ => pg_name (i := 5) sc__law_root.nd rfl (.inl rfl)) (tgNameW (by decide)) (fun _ _ _ _ _ => ptsYes) (fun _ _ _ _ _ => (vMod (toPk (vIntC bl.b_int (ppCons (toPk (vDiv (pIx (pVar 0) (toPk vInt)) (toPk (vAdd (pVar 5) (toPk vInt))))) ppNil))) (toPk vInt))))) ppNil))) sc__law_root.nd)
 (mOneR (mRetR (toFr (vTup (paCons vStr (paCons (vAdd (toPk vInt) (toPk (vMod (toPk (vIntC bl.b_int (ppCons (pIx (pVar 0) (toPk vInt)) ppNil))) (toPk vInt)))) (paCons vInt (paCons vNon (paCons (pk_of_vl (pVar 4)) (paCons (pk_of_vl (pVar 1)) (paCons (pk_of_vl (pVar 2)) (paCons (pk_of_vl (pVar 6)) paNil)))))))))))))))))
theorem own__law_root (bl : Blt mg) (inS : K.In h) (G : h.Ns mainGlobals mg) (g__law_places : Own P w K mg base tb 1 "_law_places" 1 F__law_places) (D : Dfd K "_law_root" st__law_root) : Own P w K mg base tb 2 "_law_root" 1 F__law_root :=
  D.own inS G sc__law_root (fun _ _ _ _ _ _ us hl => match us, hl with | [_], _ => rfl) (red__law_root bl g__law_places)
theorem sc__law_words : FnScope N__law_words ["_law_root_here", "_law_block"] (defScope st__law_words) := ⟨rfl, rfl, rfl, by decide +kernel, rfl, by decide +kernel, by decide +kernel⟩
theorem red__law_words (bl : Blt mg)  (f : Addr) (cdv : Value) (A : Around) (outer : List Env) (s : Shared) (H : Hp) (E : XK) (T : Tm.Act) (hr : Room 0 (A.deeper (PyProof.Rows.envOfC "_law_words" (defScope st__law_words) s.heap.objs.size f cdv)))
    (tk : Takes (cxOf (L2.CX P w) P w K mg base N__law_words "_law_words" (defScope st__law_words) f cdv A outer s H E) (fun cls d _ H => E cls d H)) (hp : ∀ c, c = cxOf (L2.CX P w) P w K mg base N__law_words "_law_words" (defScope st__law_words) f cdv A outer s H E → PassesOwn (model c.prog c.w) c.A c.env c.xe) :
    PSs (cxOf (L2.CX P w) P w K mg base N__law_words "_law_words" (defScope st__law_words) f cdv A outer s H E) (defBody st__law_words) (tSt K tb (fun cls d _ H => E cls d H) T B__law_words) := by
  unfold B__law_words
  exact (mConsR (mAsg 2 (toFr (pk_of_vl (pIx (pVar 0) (toPk vInt)))) sc__law_words.nd)
 (mConsR (mAsgLc 3 (own := [("_law_place", 4)]) rfl sc__law_words.nd (by rfl) (sTup (pk_of_vl (pVar 2))) (blkOk_by (N := N__law_words) (sc := defScope st__law_words) (by decide +kernel)) (fun _ _ _ _ _ => pg_name (i := 4) sc__law_words.nd rfl (.inl rfl)) (tgNameW (by decide)) (fun _ _ _ _ _ => ptsOne (bNotN (pVar 4))) (fun _ _ _ _ _ => (pk_of_vl (pVar 4))))
 (mConsR (mAsg 5 (fLst paNil) sc__law_words.nd)
 (mConsR (mIfR (bNe hr (toPk (vLen bl.b_len (ppCons (pVar 2) ppNil))) (toPk vInt))
 (mOneR (mAppR 5 (toFr vStr)))
 mNilR)
 (mConsR (mIfR (bNe hr (toPk (vLen bl.b_len (ppCons (pIx (pVar 0) (toPk vInt)) ppNil))) (toPk vInt))
 (mOneR (mAppR 5 (toFr vStr)))
 mNilR)
 (mConsR (mIfR (bGt (toPk (vLen bl.b_len (ppCons (frPk (fLc (own := [("_law_number", 6)]) rfl sc__law_words.nd (sList (frVl (fAddL (frPk (fAddL (pVar 3) (frPk (fListC bl.b_list (ppCons (pIx (pVar 0) (toPk vInt)) ppNil))))) (frPk (fListC bl.b_list (ppCons (pIx (pVar 0) (toPk vInt)) ppNil)))))) (blkOk_by (N := N__law_words) (sc := defScope st__law_words) (by decide +kernel)) (fun _ _ _ _ _ => pg_name (i := 6) sc__law_words.nd rfl (.inl rfl)) (tgNameW (by decide)) (fun _ _ _ _ _ => ptsOne (bGe (pVar 6) (toPk vInt))) (fun _ _ _ _ _ => (pk_of_vl (pVar 6))))) ppNil))) (toPk vInt))
 (mOneR (mAppR 5 (toFr vStr)))
 mNilR)
 (mConsR (mForR (hp _ rfl) rfl (sRng1 bl.b_range (ppCons (toPk (vLen bl.b_len (ppCons (pVar 3) ppNil))) ppNil)) (pg_name (i := 7) sc__law_words.nd rfl (.inl rfl)) (tgName 7)
 (mOneR (mIfR (PW.pt (bAndC (bIn (pIx (pVar 3) (pVar 7)) (frPk (fSlL (pVar 3) poNo (poSo (pVar 7))))) (bAnd1 (bNotIn (toPk vStr) (pVar 5)))))
 (mOneR (mAppR 5 (toFr vStr)))
 mNilR)))
 (mConsR (mIfR (bIn (pVar 1) (pVar 3))
 (mOneR (mAppR 5 (toFr vStr)))
 mNilR)
 (mConsR (mForR (hp _ rfl) rfl (sRng1 bl.b_range (ppCons (toPk (vLen bl.b_len (ppCons (pIx (pVar 0) (toPk vInt)) ppNil))) ppNil)) (pg_name (i := 7) sc__law_words.nd rfl (.inl rfl)) (tgName 7)
 (mConsR (mAsg 8 (toFr (pk_of_vl (pIx (pIx (pVar 0) (toPk vInt)) (pVar 7)))) sc__law_words.nd)
 (mOneR (mIfR (bNotIn (toPk vStr) (pVar 5))
 (mOneR (mIfR (PW.pt (bOrC (bIn (pVar 8) (toPk (vSlT (pIx (pVar 0) (toPk vInt)) poNo (poSo (pVar 7))))) (bOrC (bGe (pVar 8) (toPk (vLen bl.b_len (ppCons (pVar 2) ppNil)))) (bOr1 (bIsN (pIx (pVar 2) (pVar 8)))))))
 (mOneR (mAppR 5 (toFr vStr)))
 mNilR))
 mNilR))))
 (mOneR (mRetVR 5)))))))))))
theorem own__law_words (bl : Blt mg) (inS : K.In h) (G : h.Ns mainGlobals mg)  (D : Dfd K "_law_words" st__law_words) : Own P w K mg base tb 1 "_law_words" 2 F__law_words :=
  D.own inS G sc__law_words (fun _ _ _ _ _ _ us hl => match us, hl with | [_, _], _ => rfl) (red__law_words bl )
theorem sc_law : FnScope N_law ["_law_script"] (defScope st_law) := ⟨rfl, rfl, rfl, by decide +kernel, rfl, by decide +kernel, by decide +kernel⟩
theorem red_law (bl : Blt mg) (g__law_draws : Own P w K mg base tb 1 "_law_draws" 2 F__law_draws) (g__law_root : Own P w K mg base tb 2 "_law_root" 1 F__law_root) (g__law_words : Own P w K mg base tb 1 "_law_words" 2 F__law_words) (g_root_defects : Own P w K mg base tb 3 "root_defects" 3 F_root_defects) (f : Addr) (cdv : Value) (s : Shared) (H : Hp) (T : Tm.Act) (hr : Room 4 (callerA.deeper (PyProof.Rows.envOfC "law" (defScope st_law) s.heap.objs.size f cdv)))
    (hg : (callerA.deeper (PyProof.Rows.envOfC "law" (defScope st_law) s.heap.objs.size f cdv)).guards = some [])
    (tk : Takes (cxOf (L2.CX P w) P w K mg base N_law "law" (defScope st_law) f cdv callerA [] s H (fun _ _ _ => False)) (fun cls d _ H => False)) (hp : ∀ c, c = cxOf (L2.CX P w) P w K mg base N_law "law" (defScope st_law) f cdv callerA [] s H (fun _ _ _ => False) → PassesOwn (model c.prog c.w) c.A c.env c.xe) :
    PSs (cxOf (L2.CX P w) P w K mg base N_law "law" (defScope st_law) f cdv callerA [] s H (fun _ _ _ => False)) (defBody st_law) (tSt K tb (fun cls d _ H => False) T B_law) := by
  unfold B_law
  exact (mConsR (mAsg 1 (fCallO g__law_draws hr (by decide) tk (paCons (pk_of_vl (pVar 0)) (paCons vInt paNil))) sc_law.nd)
 (mConsR (mForR (hp _ rfl) rfl (sRng1 bl.b_range (ppCons (toPk vInt) ppNil)) (pg_name (i := 2) sc_law.nd rfl (.inl rfl)) (tgName 2)
 (mConsR (mAsg 3 (fCallO g__law_root hr (by decide) tk (paCons (frVl (fSlL (pVar 1) (poSo (toPk (vMul (toPk vInt) (pVar 2)))) (poSo (toPk (vAdd (toPk (vMul (toPk vInt) (pVar 2))) (toPk vInt)))))) paNil)) sc_law.nd)
 (mConsR (mAsg 4 (toFr (vMod (toPk (vIntC bl.b_int (ppCons (pIx (pVar 1) (toPk (vAdd (toPk vInt) (pVar 2)))) ppNil))) (toPk vInt))) sc_law.nd)
 (mConsR (mAsg 5 (fLst paNil) sc_law.nd)
 (mConsR (mForR (hp _ rfl) rfl (sRng1 bl.b_range (ppCons (toPk vInt) ppNil)) (pg_name (i := 6) sc_law.nd rfl (.inl rfl)) (tgName 6)
 (mOneR (mAppR 5 (fLst (paCons (vTup (paCons vStr paNil)) (paCons (vTup (paCons vStr paNil)) (paCons (vTup (paCons vStr (paCons (vTup (paCons vStr (paCons vInt paNil))) paNil))) (paCons (vTup (paCons vStr paNil)) paNil))))))))
 (mConsR (mAsg 7 (toFr (vMod (toPk (vIntC bl.b_int (ppCons (toPk (vDiv (pIx (pVar 1) (toPk (vAdd (toPk vInt) (pVar 2)))) (toPk vInt))) ppNil))) (toPk vInt))) sc_law.nd)
 (mConsR (mPut2R 5 (toFr (vTup (paCons vStr (paCons (pk_of_vl (pVar 3)) paNil)))) (pk_of_vl (pVar 4)) (pk_of_vl (pVar 7)))
 (mConsR (mForR (hp _ rfl) rfl (sRng1 bl.b_range (ppCons (toPk vInt) ppNil)) (pg_name (i := 8) sc_law.nd rfl (.inl rfl)) (tgName 8)
 (mConsR (mAsg 12 (toFr (vTup (paCons vStr (paCons (vAdd (toPk (vAdd (pIx (pVar 3) (toPk vInt)) (toPk vInt))) (pVar 8)) (paCons vInt (paCons vNon (paCons (vTup paNil) (paCons (vTup paNil) (paCons (vTup paNil) (paCons (vTup paNil) paNil)))))))))) sc_law.nd)
 (mConsR (mIfR (PW.pt (bAndC (bLt (pVar 8) (pVar 7)) (bAnd1 (bEq hr (toPk (vMod (toPk (vIntC bl.b_int (ppCons (toPk (vDiv (pIx (pVar 1) (toPk (vAdd (toPk vInt) (pVar 2)))) (toPk vInt))) ppNil))) (toPk vInt))) (toPk vInt)))))
 (mOneR (mPut2R 5 (toFr (vTup (paCons vStr (paCons (pk_of_vl (pVar 12)) paNil)))) (pk_of_vl (pVar 4)) (pk_of_vl (pVar 8))))
 mNilR)
 (mOneR (mIfR (PW.pt (bAndC (bGt (pVar 8) (pVar 7)) (bAnd1 (bEq hr (toPk (vMod (toPk (vIntC bl.b_int (ppCons (toPk (vDiv (pIx (pVar 1) (toPk (vAdd (toPk vInt) (pVar 2)))) (toPk vInt))) ppNil))) (toPk vInt))) (toPk vInt)))))
 (mOneR (mPut2R 5 (toFr (vTup (paCons vStr (paCons (pk_of_vl (pVar 3)) paNil)))) (pk_of_vl (pVar 4)) (pk_of_vl (pVar 8))))
 mNilR)))))
 (mConsR (mAsgLc 9 (own := [("_law_word", 13)]) rfl sc_law.nd (by rfl) (sList (frVl (fCallO g__law_words hr (by decide) tk (paCons (pk_of_vl (pVar 3)) (paCons (pk_of_vl (pVar 4)) paNil))))) (blkOk_by (N := N_law) (sc := defScope st_law) (by decide +kernel)) (fun _ _ _ _ _ => pg_name (i := 13) sc_law.nd rfl (.inl rfl)) (tgNameW (by decide)) (fun _ _ _ _ _ => ptsYes) (fun _ _ _ _ _ => (vTup (paCons (pk_of_vl (pVar 4)) (paCons (pk_of_vl (pVar 7)) (paCons (pk_of_vl (pVar 13)) paNil))))))
 (mFrzR 5 (mConsR (mAsg 10 (toFr (vRepr hg hr.units bl.b_repr (ppCons (pVar 5) ppNil))) sc_law.nd)
 (mConsR (mAsg 11 (fCallO g_root_defects hr (by decide) tk (paCons (pk_of_vl (pVar 5)) (paCons (pk_of_vl (pVar 4)) (paCons (pk_of_vl (pVar 3)) paNil)))) sc_law.nd)
 (mOneR (mIfR (PW.pt (bOrC (bNotC (bVal (toPk (vIsi (c := "list") bl.b_isinstance bl.b_list (by decide +kernel) (pVar 11))))) (bOrC (bNe hr (pVar 11) (pVar 9)) (bOr1 (bNeF (toPk (vRepr hg hr.units bl.b_repr (ppCons (pVar 5) ppNil))) (pVar 10))))))
 (mOneR (mRetR (toFr vBl)))
 mNilR))))))))))))))
 (mOneR (mRetR (toFr vBl)))))
end
structure Tops (K : PySem.W.Frag) : Prop where
  d_root_page : Dfd K "root_page" st_root_page
  d_is_journal_wrong : Dfd K "is_journal_wrong" st_is_journal_wrong
  d_root_words : Dfd K "root_words" st_root_words
  d_root_defects : Dfd K "root_defects" st_root_defects
  d__law_draws : Dfd K "_law_draws" st__law_draws
  d__law_places : Dfd K "_law_places" st__law_places
  d__law_root : Dfd K "_law_root" st__law_root
  d__law_words : Dfd K "_law_words" st__law_words
  d_law : Dfd K "law" st_law
  z_enumerate : PySem.W.nsIn K mainGlobals "enumerate" = some none
  z_len : PySem.W.nsIn K mainGlobals "len" = some none
  z_set : PySem.W.nsIn K mainGlobals "set" = some none
  z_any : PySem.W.nsIn K mainGlobals "any" = some none
  z_list : PySem.W.nsIn K mainGlobals "list" = some none
  z_range : PySem.W.nsIn K mainGlobals "range" = some none
  z_int : PySem.W.nsIn K mainGlobals "int" = some none
  z_tuple : PySem.W.nsIn K mainGlobals "tuple" = some none
  z_repr : PySem.W.nsIn K mainGlobals "repr" = some none
  z_isinstance : PySem.W.nsIn K mainGlobals "isinstance" = some none
def tb0 : Tb := ⟨fun _ => 0, fun _ => 0⟩
theorem law_in {w : World} {K : PySem.W.Frag} {mg : Str → Option Value} {h : Heap} {fa : Addr} (t : Tops K) (X : K.In h) (G : h.Ns mainGlobals mg) (hfa : mg "law" = some (.ref fa)) (val : ∀ ns : List Int, ns.length ≤ 63 → fnP N_law.length B_law [.obj false .rol (ns.map D.int)] [] = .ok (.bl true)) :
    ∃ fd : FuncData, (∀ (s : Shared) (u : Value), BindsTo s fd ⟨[u], []⟩ [("_law_script", u)]) ∧ ∀ base : Heap, K.In base → base.Ns mainGlobals mg → EntA PySem.Challenge.pw_tidemark_k81_defects_of_roots w K mg base fa fd "_law_script" fun a H => ∃ ns : List Int, ns.length ≤ 63 ∧ SqL K H a (ns.map V.int) := by
  obtain ⟨f, fd, a, F⟩ := t.d_law.ex
  obtain rfl : fa = f := by
    have e := hfa.symm.trans (PySem.W.mg_of X G a)
    cases e
    rfl
  have bl : Blt mg := ⟨PySem.W.mg_none_of X G t.z_enumerate, PySem.W.mg_none_of X G t.z_len, PySem.W.mg_none_of X G t.z_set, PySem.W.mg_none_of X G t.z_any, PySem.W.mg_none_of X G t.z_list, PySem.W.mg_none_of X G t.z_range, PySem.W.mg_none_of X G t.z_int, PySem.W.mg_none_of X G t.z_tuple, PySem.W.mg_none_of X G t.z_repr, PySem.W.mg_none_of X G t.z_isinstance⟩
  refine ⟨fd, ?_, fun base _ _ => ?_⟩
  · obtain ⟨oc, od, kV, doc, pm, an, cdv, ct, osl, rfl, _⟩ := F.ex
    exact fun s u => .of_eq rfl
  have g_root_page : Own PySem.Challenge.pw_tidemark_k81_defects_of_roots w K mg base tb0 1 "root_page" 3 F_root_page := own_root_page bl X G  t.d_root_page
  have g_is_journal_wrong : Own PySem.Challenge.pw_tidemark_k81_defects_of_roots w K mg base tb0 1 "is_journal_wrong" 1 F_is_journal_wrong := own_is_journal_wrong bl X G  t.d_is_journal_wrong
  have g_root_words : Own PySem.Challenge.pw_tidemark_k81_defects_of_roots w K mg base tb0 2 "root_words" 3 F_root_words := own_root_words bl X G g_is_journal_wrong t.d_root_words
  have g_root_defects : Own PySem.Challenge.pw_tidemark_k81_defects_of_roots w K mg base tb0 3 "root_defects" 3 F_root_defects := own_root_defects bl X G g_root_page g_root_words t.d_root_defects
  have g__law_draws : Own PySem.Challenge.pw_tidemark_k81_defects_of_roots w K mg base tb0 1 "_law_draws" 2 F__law_draws := own__law_draws bl X G  t.d__law_draws
  have g__law_places : Own PySem.Challenge.pw_tidemark_k81_defects_of_roots w K mg base tb0 1 "_law_places" 1 F__law_places := own__law_places bl X G  t.d__law_places
  have g__law_root : Own PySem.Challenge.pw_tidemark_k81_defects_of_roots w K mg base tb0 2 "_law_root" 1 F__law_root := own__law_root bl X G g__law_places t.d__law_root
  have g__law_words : Own PySem.Challenge.pw_tidemark_k81_defects_of_roots w K mg base tb0 1 "_law_words" 2 F__law_words := own__law_words bl X G  t.d__law_words
  refine ent_of (k := 4) F sc_law ⟨rfl, by decide, by decide⟩ (fun cdv s H T hr hg tk hp => red_law bl g__law_draws g__law_root g__law_words g_root_defects fa cdv s H T hr hg tk hp) val
end K81

set_option Elab.async false
set_option linter.all false
set_option maxRecDepth 100000
set_option maxHeartbeats 4000000
namespace K81
open PySem L2 Tm
/-! ### _law_draws -/
abbrev sd (ns ds : List Int) (k c : Option D) : S := ⟨[some (.obj false .rol (ns.map .int)), some (.int 40), some (.obj true .lst (ds.map .int)), k, c], []⟩
theorem inR_of {i : Int} (h1 : -18446744073709551616 < i) (h2 : i < 18446744073709551616) : inR i = true := by
  unfold inR
  exact decide_eq_true ⟨by omega, by omega⟩
theorem mod_nn {a b : Int} (h : 0 < b) : 0 ≤ a % b := Int.emod_nonneg _ (by omega)
theorem dr1 {ns ds : List Int} {i : Nat} : ∃ v : Int, I__law_draws_1 (sd ns ds (some (.int i)) (some (.int 0))) = .nx (sd ns ds (some (.int i)) (some (.int v))) := by
  unfold I__law_draws_1
  simp -implicitDefEqProofs only [mSeq_ev, sq_nx, sq_rt, sq_bk, sq_ct, sq_ite, of_ok, mSkip_ev, mSetN_ev, mRet_ev, mIf_ev, mFor_ev, mBk_ev, mCt_ev, eB2_ev, eU_ev, eC_ev, aNil_ev, aCons_ev, eCall_ev, eTup_ev, eLst_ev, eSl_ev, oNo_ev, oSo_ev, bOf_ev, bAnd_ev, bOr_ev, bNot_ev, asB_bl, get_mk, set_mk, gV, cI, cS, cB, cN, eF, eFz, iL, iP, iT, i1, i2, iEn, aN, eIsN, eNotN, R.bind_ok, R.map_ok, R.of_some, List.set_cons_zero, List.set_cons_succ, List.getElem?_cons_zero, List.getElem?_cons_succ, List.length_cons, List.length_nil, D.isF, isFL, if_true, if_false, Bool.false_eq_true, Bool.not_true, Bool.not_false, Bool.and_true, Bool.true_and, Bool.and_false, Bool.false_and, bName, bTup, setAll, Nat.zero_add, Nat.reduceAdd, Nat.reduceLeDiff, Nat.reduceEqDiff, List.map_cons, List.map_nil, Option.map_some, Option.bind_some, dLen_rol, dGt_int, dInt_int]
  by_cases hl : (0 : Int) < (ns.map D.int).length
  · have hm : (0 : Int) ≤ (i : Int) % (ns.map D.int).length := Int.emod_nonneg _ (by omega)
    have hm2 : (i : Int) % (ns.map D.int).length < (ns.map D.int).length := Int.emod_lt_of_pos _ hl
    have hn : ((i : Int) % (ns.map D.int).length).toNat < ns.length := by rw [List.length_map] at hm hm2 ⊢; omega
    refine ⟨ns[((i : Int) % (ns.map D.int).length).toNat], ?_⟩
    simp -implicitDefEqProofs only [mSeq_ev, sq_nx, sq_rt, sq_bk, sq_ct, sq_ite, of_ok, mSkip_ev, mSetN_ev, mRet_ev, mIf_ev, mFor_ev, mBk_ev, mCt_ev, eB2_ev, eU_ev, eC_ev, aNil_ev, aCons_ev, eCall_ev, eTup_ev, eLst_ev, eSl_ev, oNo_ev, oSo_ev, bOf_ev, bAnd_ev, bOr_ev, bNot_ev, asB_bl, get_mk, set_mk, gV, cI, cS, cB, cN, eF, eFz, iL, iP, iT, i1, i2, iEn, aN, eIsN, eNotN, R.bind_ok, R.map_ok, R.of_some, List.set_cons_zero, List.set_cons_succ, List.getElem?_cons_zero, List.getElem?_cons_succ, List.length_cons, List.length_nil, D.isF, isFL, if_true, if_false, Bool.false_eq_true, Bool.not_true, Bool.not_false, Bool.and_true, Bool.true_and, Bool.and_false, Bool.false_and, bName, bTup, setAll, Nat.zero_add, Nat.reduceAdd, Nat.reduceLeDiff, Nat.reduceEqDiff, List.map_cons, List.map_nil, Option.map_some, Option.bind_some, decide_eq_true hl, dMod_p hl, dIx_rol, atI_at hm hm2, List.getElem?_map, List.getElem?_eq_getElem hn, dInt_int]
  · exact ⟨0, by simp -implicitDefEqProofs only [mSeq_ev, sq_nx, sq_rt, sq_bk, sq_ct, sq_ite, of_ok, mSkip_ev, mSetN_ev, mRet_ev, mIf_ev, mFor_ev, mBk_ev, mCt_ev, eB2_ev, eU_ev, eC_ev, aNil_ev, aCons_ev, eCall_ev, eTup_ev, eLst_ev, eSl_ev, oNo_ev, oSo_ev, bOf_ev, bAnd_ev, bOr_ev, bNot_ev, asB_bl, get_mk, set_mk, gV, cI, cS, cB, cN, eF, eFz, iL, iP, iT, i1, i2, iEn, aN, eIsN, eNotN, R.bind_ok, R.map_ok, R.of_some, List.set_cons_zero, List.set_cons_succ, List.getElem?_cons_zero, List.getElem?_cons_succ, List.length_cons, List.length_nil, D.isF, isFL, if_true, if_false, Bool.false_eq_true, Bool.not_true, Bool.not_false, Bool.and_true, Bool.true_and, Bool.and_false, Bool.false_and, bName, bTup, setAll, Nat.zero_add, Nat.reduceAdd, Nat.reduceLeDiff, Nat.reduceEqDiff, List.map_cons, List.map_nil, Option.map_some, Option.bind_some, decide_eq_false hl]⟩
theorem dr2 {ns ds : List Int} {k : Option D} {v : Int} : ∃ u : Int, 0 ≤ u ∧ I__law_draws_2 (sd ns ds k (some (.int v))) = .nx (sd ns ds k (some (.int u))) := by
  unfold I__law_draws_2
  have i2 : inR 2 = true := inR_of (by omega) (by omega)
  simp -implicitDefEqProofs only [mSeq_ev, sq_nx, sq_rt, sq_bk, sq_ct, sq_ite, of_ok, mSkip_ev, mSetN_ev, mRet_ev, mIf_ev, mFor_ev, mBk_ev, mCt_ev, eB2_ev, eU_ev, eC_ev, aNil_ev, aCons_ev, eCall_ev, eTup_ev, eLst_ev, eSl_ev, oNo_ev, oSo_ev, bOf_ev, bAnd_ev, bOr_ev, bNot_ev, asB_bl, get_mk, set_mk, gV, cI, cS, cB, cN, eF, eFz, iL, iP, iT, i1, i2, iEn, aN, eIsN, eNotN, R.bind_ok, R.map_ok, R.of_some, List.set_cons_zero, List.set_cons_succ, List.getElem?_cons_zero, List.getElem?_cons_succ, List.length_cons, List.length_nil, D.isF, isFL, if_true, if_false, Bool.false_eq_true, Bool.not_true, Bool.not_false, Bool.and_true, Bool.true_and, Bool.and_false, Bool.false_and, bName, bTup, setAll, Nat.zero_add, Nat.reduceAdd, Nat.reduceLeDiff, Nat.reduceEqDiff, List.map_cons, List.map_nil, Option.map_some, Option.bind_some, dLt_int, dMul_l i2, dSub_int]
  by_cases h : v < 0
  · exact ⟨1 - 2 * v, by omega, by simp -implicitDefEqProofs only [mSeq_ev, sq_nx, sq_rt, sq_bk, sq_ct, sq_ite, of_ok, mSkip_ev, mSetN_ev, mRet_ev, mIf_ev, mFor_ev, mBk_ev, mCt_ev, eB2_ev, eU_ev, eC_ev, aNil_ev, aCons_ev, eCall_ev, eTup_ev, eLst_ev, eSl_ev, oNo_ev, oSo_ev, bOf_ev, bAnd_ev, bOr_ev, bNot_ev, asB_bl, get_mk, set_mk, gV, cI, cS, cB, cN, eF, eFz, iL, iP, iT, i1, i2, iEn, aN, eIsN, eNotN, R.bind_ok, R.map_ok, R.of_some, List.set_cons_zero, List.set_cons_succ, List.getElem?_cons_zero, List.getElem?_cons_succ, List.length_cons, List.length_nil, D.isF, isFL, if_true, if_false, Bool.false_eq_true, Bool.not_true, Bool.not_false, Bool.and_true, Bool.true_and, Bool.and_false, Bool.false_and, bName, bTup, setAll, Nat.zero_add, Nat.reduceAdd, Nat.reduceLeDiff, Nat.reduceEqDiff, List.map_cons, List.map_nil, Option.map_some, Option.bind_some, decide_eq_true h]⟩
  · exact ⟨v, by omega, by simp -implicitDefEqProofs only [mSeq_ev, sq_nx, sq_rt, sq_bk, sq_ct, sq_ite, of_ok, mSkip_ev, mSetN_ev, mRet_ev, mIf_ev, mFor_ev, mBk_ev, mCt_ev, eB2_ev, eU_ev, eC_ev, aNil_ev, aCons_ev, eCall_ev, eTup_ev, eLst_ev, eSl_ev, oNo_ev, oSo_ev, bOf_ev, bAnd_ev, bOr_ev, bNot_ev, asB_bl, get_mk, set_mk, gV, cI, cS, cB, cN, eF, eFz, iL, iP, iT, i1, i2, iEn, aN, eIsN, eNotN, R.bind_ok, R.map_ok, R.of_some, List.set_cons_zero, List.set_cons_succ, List.getElem?_cons_zero, List.getElem?_cons_succ, List.length_cons, List.length_nil, D.isF, isFL, if_true, if_false, Bool.false_eq_true, Bool.not_true, Bool.not_false, Bool.and_true, Bool.true_and, Bool.and_false, Bool.false_and, bName, bTup, setAll, Nat.zero_add, Nat.reduceAdd, Nat.reduceLeDiff, Nat.reduceEqDiff, List.map_cons, List.map_nil, Option.map_some, Option.bind_some, decide_eq_false h]⟩
theorem dr3 {ns ds : List Int} {j v : Int} (hj : 0 ≤ j) (hi : j < 40) (hv : 0 ≤ v) : ∃ u : Int, 0 ≤ u ∧ I__law_draws_3 (sd ns ds (some (.int j)) (some (.int v))) = .nx (sd ns ds (some (.int j)) (some (.int u))) := by
  unfold I__law_draws_3
  have i69 : inR 69069 = true := inR_of (by omega) (by omega)
  have i40 : inR 40692 = true := inR_of (by omega) (by omega)
  have i97 : inR 97 = true := inR_of (by omega) (by omega)
  have i13 : inR 13 = true := inR_of (by omega) (by omega)
  have iB : inR 6364136223846793005 = true := inR_of (by omega) (by omega)
  have p1 : (0 : Int) < 2147483399 := by omega
  have p2 : (0 : Int) < 18446744073709551533 := by omega
  have iI : inR j = true := inR_of (by omega) (by omega)
  simp -implicitDefEqProofs only [mSeq_ev, sq_nx, sq_rt, sq_bk, sq_ct, sq_ite, of_ok, mSkip_ev, mSetN_ev, mRet_ev, mIf_ev, mFor_ev, mBk_ev, mCt_ev, eB2_ev, eU_ev, eC_ev, aNil_ev, aCons_ev, eCall_ev, eTup_ev, eLst_ev, eSl_ev, oNo_ev, oSo_ev, bOf_ev, bAnd_ev, bOr_ev, bNot_ev, asB_bl, get_mk, set_mk, gV, cI, cS, cB, cN, eF, eFz, iL, iP, iT, i1, i2, iEn, aN, eIsN, eNotN, R.bind_ok, R.map_ok, R.of_some, List.set_cons_zero, List.set_cons_succ, List.getElem?_cons_zero, List.getElem?_cons_succ, List.length_cons, List.length_nil, D.isF, isFL, if_true, if_false, Bool.false_eq_true, Bool.not_true, Bool.not_false, Bool.and_true, Bool.true_and, Bool.and_false, Bool.false_and, bName, bTup, setAll, Nat.zero_add, Nat.reduceAdd, Nat.reduceLeDiff, Nat.reduceEqDiff, List.map_cons, List.map_nil, Option.map_some, Option.bind_some, dLen_rol, dGe_int, dLt_int, dMul_r i69, dMul_r i40, dMul_l i97, dMul_l i13, dMul_l iI, dMul_r iB, dMod_p p1, dMod_p p2, dInt_int, addI_int]
  by_cases h : (((ns.map D.int).length : Nat) : Int) ≤ j
  · exact ⟨((((v + 97 * j + 5) * 69069 + j * j * 40692) % 2147483399 + 13 * j + 1) * 6364136223846793005) % 18446744073709551533, mod_nn p2, by simp -implicitDefEqProofs only [mSeq_ev, sq_nx, sq_rt, sq_bk, sq_ct, sq_ite, of_ok, mSkip_ev, mSetN_ev, mRet_ev, mIf_ev, mFor_ev, mBk_ev, mCt_ev, eB2_ev, eU_ev, eC_ev, aNil_ev, aCons_ev, eCall_ev, eTup_ev, eLst_ev, eSl_ev, oNo_ev, oSo_ev, bOf_ev, bAnd_ev, bOr_ev, bNot_ev, asB_bl, get_mk, set_mk, gV, cI, cS, cB, cN, eF, eFz, iL, iP, iT, i1, i2, iEn, aN, eIsN, eNotN, R.bind_ok, R.map_ok, R.of_some, List.set_cons_zero, List.set_cons_succ, List.getElem?_cons_zero, List.getElem?_cons_succ, List.length_cons, List.length_nil, D.isF, isFL, if_true, if_false, Bool.false_eq_true, Bool.not_true, Bool.not_false, Bool.and_true, Bool.true_and, Bool.and_false, Bool.false_and, bName, bTup, setAll, Nat.zero_add, Nat.reduceAdd, Nat.reduceLeDiff, Nat.reduceEqDiff, List.map_cons, List.map_nil, Option.map_some, Option.bind_some, decide_eq_true h]⟩
  · by_cases h2 : v < 1000000000
    · exact ⟨((((v + 97 * j + 5) * 69069 + j * j * 40692) % 2147483399 + 13 * j + 1) * 6364136223846793005) % 18446744073709551533, mod_nn p2, by simp -implicitDefEqProofs only [mSeq_ev, sq_nx, sq_rt, sq_bk, sq_ct, sq_ite, of_ok, mSkip_ev, mSetN_ev, mRet_ev, mIf_ev, mFor_ev, mBk_ev, mCt_ev, eB2_ev, eU_ev, eC_ev, aNil_ev, aCons_ev, eCall_ev, eTup_ev, eLst_ev, eSl_ev, oNo_ev, oSo_ev, bOf_ev, bAnd_ev, bOr_ev, bNot_ev, asB_bl, get_mk, set_mk, gV, cI, cS, cB, cN, eF, eFz, iL, iP, iT, i1, i2, iEn, aN, eIsN, eNotN, R.bind_ok, R.map_ok, R.of_some, List.set_cons_zero, List.set_cons_succ, List.getElem?_cons_zero, List.getElem?_cons_succ, List.length_cons, List.length_nil, D.isF, isFL, if_true, if_false, Bool.false_eq_true, Bool.not_true, Bool.not_false, Bool.and_true, Bool.true_and, Bool.and_false, Bool.false_and, bName, bTup, setAll, Nat.zero_add, Nat.reduceAdd, Nat.reduceLeDiff, Nat.reduceEqDiff, List.map_cons, List.map_nil, Option.map_some, Option.bind_some, decide_eq_false h, decide_eq_true h2]⟩
    · exact ⟨v, hv, by simp -implicitDefEqProofs only [mSeq_ev, sq_nx, sq_rt, sq_bk, sq_ct, sq_ite, of_ok, mSkip_ev, mSetN_ev, mRet_ev, mIf_ev, mFor_ev, mBk_ev, mCt_ev, eB2_ev, eU_ev, eC_ev, aNil_ev, aCons_ev, eCall_ev, eTup_ev, eLst_ev, eSl_ev, oNo_ev, oSo_ev, bOf_ev, bAnd_ev, bOr_ev, bNot_ev, asB_bl, get_mk, set_mk, gV, cI, cS, cB, cN, eF, eFz, iL, iP, iT, i1, i2, iEn, aN, eIsN, eNotN, R.bind_ok, R.map_ok, R.of_some, List.set_cons_zero, List.set_cons_succ, List.getElem?_cons_zero, List.getElem?_cons_succ, List.length_cons, List.length_nil, D.isF, isFL, if_true, if_false, Bool.false_eq_true, Bool.not_true, Bool.not_false, Bool.and_true, Bool.true_and, Bool.and_false, Bool.false_and, bName, bTup, setAll, Nat.zero_add, Nat.reduceAdd, Nat.reduceLeDiff, Nat.reduceEqDiff, List.map_cons, List.map_nil, Option.map_some, Option.bind_some, decide_eq_false h, decide_eq_false h2]⟩
theorem draws_ok (ns : List Int) : ∃ ds : List Int, F__law_draws [.obj false .rol (ns.map .int), .int 40] [] = .ok (.obj true .lst (ds.map .int)) ∧ ds.length = 40 ∧ ∀ d ∈ ds, 0 ≤ d := by
  obtain ⟨ρ', e, ds, k, c, rfl, hl, h0⟩ := forL_inv (bt := bName 3) (body := L__law_draws_1) (fun i ρ => ∃ (ds : List Int) (k c : Option D), ρ = sd ns ds k c ∧ ds.length = i ∧ ∀ d ∈ ds, 0 ≤ d) (xs := rngL 0 40) (ρ := sd ns [] none none) (by
    rintro i x ρ hx ⟨ds, k, c, rfl, hl, h0⟩
    obtain ⟨rfl, hi⟩ := rng_get hx
    rw [Int.zero_add]
    obtain ⟨v, e1⟩ := dr1 (ns := ns) (ds := ds) (i := i)
    obtain ⟨u, hu, e2⟩ := dr2 (ns := ns) (ds := ds) (k := some (.int i)) (v := v)
    obtain ⟨w, hw, e3⟩ := dr3 (ns := ns) (ds := ds) (j := i) (v := u) (by omega) (by omega) hu
    refine ⟨_, _, rfl, .inl (?_ : _ = Out.nx (sd ns (ds ++ [w]) (some (.int i)) (some (.int w)))), ds ++ [w], _, _, rfl, by rw [List.length_append, hl]; rfl, ?_⟩
    · unfold L__law_draws_1
      simp -implicitDefEqProofs only [mSeq_ev, sq_nx, sq_rt, sq_bk, sq_ct, sq_ite, of_ok, mSkip_ev, mSetN_ev, mRet_ev, mIf_ev, mFor_ev, mBk_ev, mCt_ev, eB2_ev, eU_ev, eC_ev, aNil_ev, aCons_ev, eCall_ev, eTup_ev, eLst_ev, eSl_ev, oNo_ev, oSo_ev, bOf_ev, bAnd_ev, bOr_ev, bNot_ev, asB_bl, get_mk, set_mk, gV, cI, cS, cB, cN, eF, eFz, iL, iP, iT, i1, i2, iEn, aN, eIsN, eNotN, R.bind_ok, R.map_ok, R.of_some, List.set_cons_zero, List.set_cons_succ, List.getElem?_cons_zero, List.getElem?_cons_succ, List.length_cons, List.length_nil, D.isF, isFL, if_true, if_false, Bool.false_eq_true, Bool.not_true, Bool.not_false, Bool.and_true, Bool.true_and, Bool.and_false, Bool.false_and, bName, bTup, setAll, Nat.zero_add, Nat.reduceAdd, Nat.reduceLeDiff, Nat.reduceEqDiff, List.map_cons, List.map_nil, Option.map_some, Option.bind_some]
      rw [e1, sq_nx, mSeq_ev, e2, sq_nx, mSeq_ev, e3, sq_nx, mApp_ev (i := 2) (xs := ds.map D.int) rfl (by rw [List.length_map]; omega)]
      simp -implicitDefEqProofs only [mSeq_ev, sq_nx, sq_rt, sq_bk, sq_ct, sq_ite, of_ok, mSkip_ev, mSetN_ev, mRet_ev, mIf_ev, mFor_ev, mBk_ev, mCt_ev, eB2_ev, eU_ev, eC_ev, aNil_ev, aCons_ev, eCall_ev, eTup_ev, eLst_ev, eSl_ev, oNo_ev, oSo_ev, bOf_ev, bAnd_ev, bOr_ev, bNot_ev, asB_bl, get_mk, set_mk, gV, cI, cS, cB, cN, eF, eFz, iL, iP, iT, i1, i2, iEn, aN, eIsN, eNotN, R.bind_ok, R.map_ok, R.of_some, List.set_cons_zero, List.set_cons_succ, List.getElem?_cons_zero, List.getElem?_cons_succ, List.length_cons, List.length_nil, D.isF, isFL, if_true, if_false, Bool.false_eq_true, Bool.not_true, Bool.not_false, Bool.and_true, Bool.true_and, Bool.and_false, Bool.false_and, bName, bTup, setAll, Nat.zero_add, Nat.reduceAdd, Nat.reduceLeDiff, Nat.reduceEqDiff, List.map_cons, List.map_nil, Option.map_some, Option.bind_some, List.map_append, sd]
    · intro d m
      rcases List.mem_append.mp m with m | m
      · exact h0 d m
      · rw [List.mem_singleton.mp m]; exact hw) ⟨[], none, none, rfl, rfl, fun d m => nomatch m⟩
  refine ⟨ds, fnP_rt (bx' := []) ?_, by rw [hl, rng_len], h0⟩
  show B__law_draws ⟨[some (.obj false .rol (ns.map .int)), some (.int 40), none, none, none], []⟩ = _
  unfold B__law_draws
  simp -implicitDefEqProofs only [mSeq_ev, sq_nx, sq_rt, sq_bk, sq_ct, sq_ite, of_ok, mSkip_ev, mSetN_ev, mRet_ev, mIf_ev, mFor_ev, mBk_ev, mCt_ev, eB2_ev, eU_ev, eC_ev, aNil_ev, aCons_ev, eCall_ev, eTup_ev, eLst_ev, eSl_ev, oNo_ev, oSo_ev, bOf_ev, bAnd_ev, bOr_ev, bNot_ev, asB_bl, get_mk, set_mk, gV, cI, cS, cB, cN, eF, eFz, iL, iP, iT, i1, i2, iEn, aN, eIsN, eNotN, R.bind_ok, R.map_ok, R.of_some, List.set_cons_zero, List.set_cons_succ, List.getElem?_cons_zero, List.getElem?_cons_succ, List.length_cons, List.length_nil, D.isF, isFL, if_true, if_false, Bool.false_eq_true, Bool.not_true, Bool.not_false, Bool.and_true, Bool.true_and, Bool.and_false, Bool.false_and, bName, bTup, setAll, Nat.zero_add, Nat.reduceAdd, Nat.reduceLeDiff, Nat.reduceEqDiff, List.map_cons, List.map_nil, Option.map_some, Option.bind_some, it1_nat (n := 40) (by decide)]
  have e40 : it1 [D.int 40] = .ok (rngL 0 40) := it1_nat (n := 40) (by decide)
  simp -implicitDefEqProofs only [mSeq_ev, sq_nx, sq_rt, sq_bk, sq_ct, sq_ite, of_ok, mSkip_ev, mSetN_ev, mRet_ev, mIf_ev, mFor_ev, mBk_ev, mCt_ev, eB2_ev, eU_ev, eC_ev, aNil_ev, aCons_ev, eCall_ev, eTup_ev, eLst_ev, eSl_ev, oNo_ev, oSo_ev, bOf_ev, bAnd_ev, bOr_ev, bNot_ev, asB_bl, get_mk, set_mk, gV, cI, cS, cB, cN, eF, eFz, iL, iP, iT, i1, i2, iEn, aN, eIsN, eNotN, R.bind_ok, R.map_ok, R.of_some, List.set_cons_zero, List.set_cons_succ, List.getElem?_cons_zero, List.getElem?_cons_succ, List.length_cons, List.length_nil, D.isF, isFL, if_true, if_false, Bool.false_eq_true, Bool.not_true, Bool.not_false, Bool.and_true, Bool.true_and, Bool.and_false, Bool.false_and, bName, bTup, setAll, Nat.zero_add, Nat.reduceAdd, Nat.reduceLeDiff, Nat.reduceEqDiff, List.map_cons, List.map_nil, Option.map_some, Option.bind_some, e40]
  have e' : forL (bName 3) L__law_draws_1 (rngL 0 40) ⟨[some (.obj false .rol (ns.map .int)), some (.int 40), some (.obj true .lst []), none, none], []⟩ = _ := e
  rw [e', sq_nx]
  exact mRetV_ev rfl

/-! ### _law_places -/
def oD : Option Int → D
  | none => .non
  | some i => .int i
theorem oD_isF (o : Option Int) : (oD o).isF = true := by cases o <;> rfl
theorem isFL_o (P : List (Option Int)) : isFL (P.map oD) = true := isFL_of fun x m => by obtain ⟨o, _, rfl⟩ := List.mem_map.mp m; exact oD_isF o
def Small (P : List (Option Int)) : Prop := ∀ x, some x ∈ P → 0 ≤ x ∧ x < 30
abbrev sp (d : Int) (P : List (Option Int)) (c k g : Option D) : S := ⟨[some (.int d), some (.obj true .lst (P.map oD)), c, k, g], []⟩
theorem pl2 {d c j g : Int} {P : List (Option Int)} (hj : 0 ≤ j) (hj2 : j < 26) (hP : Small P) (hl : P.length < 100) : ∃ o : Option Int, (∀ x, o = some x → 0 ≤ x ∧ x < 30) ∧
    I__law_places_2 (sp d P (some (.int c)) (some (.int j)) (some (.int g))) = .nx (sp d (P ++ [o]) (some (.int c)) (some (.int j)) (some (.int g))) := by
  unfold I__law_places_2 I__law_places_1
  have p30 : (0 : Int) < 30 := by omega
  have q7 : (0 : Int) < 7 ∧ (7 : Int) < 1073741824 := by omega
  simp -implicitDefEqProofs only [mSeq_ev, sq_nx, sq_rt, sq_bk, sq_ct, sq_ite, of_ok, mSkip_ev, mSetN_ev, mRet_ev, mIf_ev, mFor_ev, mBk_ev, mCt_ev, eB2_ev, eU_ev, eC_ev, aNil_ev, aCons_ev, eCall_ev, eTup_ev, eLst_ev, eSl_ev, oNo_ev, oSo_ev, bOf_ev, bAnd_ev, bOr_ev, bNot_ev, asB_bl, get_mk, set_mk, gV, cI, cS, cB, cN, eF, eFz, iL, iP, iT, i1, i2, iEn, aN, eIsN, eNotN, R.bind_ok, R.map_ok, R.of_some, List.set_cons_zero, List.set_cons_succ, List.getElem?_cons_zero, List.getElem?_cons_succ, List.length_cons, List.length_nil, D.isF, isFL, if_true, if_false, Bool.false_eq_true, Bool.not_true, Bool.not_false, Bool.and_true, Bool.true_and, Bool.and_false, Bool.false_and, bName, bTup, setAll, Nat.zero_add, Nat.reduceAdd, Nat.reduceLeDiff, Nat.reduceEqDiff, List.map_cons, List.map_nil, Option.map_some, Option.bind_some, dLt_int, dEq_int]
  have ap : ∀ f : EX, mApp 1 f (sp d P (some (.int c)) (some (.int j)) (some (.int g))) = _ := fun f => mApp_ev (i := 1) (xs := P.map oD) rfl (by rw [List.length_map]; omega)
  by_cases h : g < 24
  · refine ⟨some j, fun x e => by cases e; omega, ?_⟩
    simp -implicitDefEqProofs only [mSeq_ev, sq_nx, sq_rt, sq_bk, sq_ct, sq_ite, of_ok, mSkip_ev, mSetN_ev, mRet_ev, mIf_ev, mFor_ev, mBk_ev, mCt_ev, eB2_ev, eU_ev, eC_ev, aNil_ev, aCons_ev, eCall_ev, eTup_ev, eLst_ev, eSl_ev, oNo_ev, oSo_ev, bOf_ev, bAnd_ev, bOr_ev, bNot_ev, asB_bl, get_mk, set_mk, gV, cI, cS, cB, cN, eF, eFz, iL, iP, iT, i1, i2, iEn, aN, eIsN, eNotN, R.bind_ok, R.map_ok, R.of_some, List.set_cons_zero, List.set_cons_succ, List.getElem?_cons_zero, List.getElem?_cons_succ, List.length_cons, List.length_nil, D.isF, isFL, if_true, if_false, Bool.false_eq_true, Bool.not_true, Bool.not_false, Bool.and_true, Bool.true_and, Bool.and_false, Bool.false_and, bName, bTup, setAll, Nat.zero_add, Nat.reduceAdd, Nat.reduceLeDiff, Nat.reduceEqDiff, List.map_cons, List.map_nil, Option.map_some, Option.bind_some, decide_eq_true h, ap, List.map_append, oD, sp]
  · by_cases h2 : g = 24
    · refine ⟨some (c / 7 % 30), fun x e => by cases e; exact ⟨mod_nn p30, Int.emod_lt_of_pos _ p30⟩, ?_⟩
      have h3 : (g == 24) = true := beq_iff_eq.mpr h2
      simp -implicitDefEqProofs only [mSeq_ev, sq_nx, sq_rt, sq_bk, sq_ct, sq_ite, of_ok, mSkip_ev, mSetN_ev, mRet_ev, mIf_ev, mFor_ev, mBk_ev, mCt_ev, eB2_ev, eU_ev, eC_ev, aNil_ev, aCons_ev, eCall_ev, eTup_ev, eLst_ev, eSl_ev, oNo_ev, oSo_ev, bOf_ev, bAnd_ev, bOr_ev, bNot_ev, asB_bl, get_mk, set_mk, gV, cI, cS, cB, cN, eF, eFz, iL, iP, iT, i1, i2, iEn, aN, eIsN, eNotN, R.bind_ok, R.map_ok, R.of_some, List.set_cons_zero, List.set_cons_succ, List.getElem?_cons_zero, List.getElem?_cons_succ, List.length_cons, List.length_nil, D.isF, isFL, if_true, if_false, Bool.false_eq_true, Bool.not_true, Bool.not_false, Bool.and_true, Bool.true_and, Bool.and_false, Bool.false_and, bName, bTup, setAll, Nat.zero_add, Nat.reduceAdd, Nat.reduceLeDiff, Nat.reduceEqDiff, List.map_cons, List.map_nil, Option.map_some, Option.bind_some, decide_eq_false h, h3, ap, List.map_append, oD, sp, dInt_int, dMod_p p30, dDiv_p q7]
    · refine ⟨none, (fun x e => nomatch e), ?_⟩
      have h3 : (g == 24) = false := beq_eq_false_iff_ne.mpr h2
      simp -implicitDefEqProofs only [mSeq_ev, sq_nx, sq_rt, sq_bk, sq_ct, sq_ite, of_ok, mSkip_ev, mSetN_ev, mRet_ev, mIf_ev, mFor_ev, mBk_ev, mCt_ev, eB2_ev, eU_ev, eC_ev, aNil_ev, aCons_ev, eCall_ev, eTup_ev, eLst_ev, eSl_ev, oNo_ev, oSo_ev, bOf_ev, bAnd_ev, bOr_ev, bNot_ev, asB_bl, get_mk, set_mk, gV, cI, cS, cB, cN, eF, eFz, iL, iP, iT, i1, i2, iEn, aN, eIsN, eNotN, R.bind_ok, R.map_ok, R.of_some, List.set_cons_zero, List.set_cons_succ, List.getElem?_cons_zero, List.getElem?_cons_succ, List.length_cons, List.length_nil, D.isF, isFL, if_true, if_false, Bool.false_eq_true, Bool.not_true, Bool.not_false, Bool.and_true, Bool.true_and, Bool.and_false, Bool.false_and, bName, bTup, setAll, Nat.zero_add, Nat.reduceAdd, Nat.reduceLeDiff, Nat.reduceEqDiff, List.map_cons, List.map_nil, Option.map_some, Option.bind_some, decide_eq_false h, h3, ap, List.map_append, oD, sp]
theorem pl_step {d c j : Int} {g : Option D} {P : List (Option Int)} (hj : 0 ≤ j) (hj2 : j < 26) (hP : Small P) (hl : P.length < 100) : ∃ (o : Option Int) (c' g' : Int), (∀ x, o = some x → 0 ≤ x ∧ x < 30) ∧
    L__law_places_1 (sp d P (some (.int c)) (some (.int j)) g) = .nx (sp d (P ++ [o]) (some (.int c')) (some (.int j)) (some (.int g'))) := by
  have i69 : inR 69069 = true := inR_of (by omega) (by omega)
  have i7 : inR 7 = true := inR_of (by omega) (by omega)
  have p1 : (0 : Int) < 18446744073709551533 := by omega
  have p40 : (0 : Int) < 40 := by omega
  have q1 : (0 : Int) < 1000 ∧ (1000 : Int) < 1073741824 := by omega
  obtain ⟨o, ho, e⟩ := pl2 (d := d) (c := (c * 69069 + 7 * j + 11) % 18446744073709551533) (j := j) (g := (c * 69069 + 7 * j + 11) % 18446744073709551533 / 1000 % 40) hj hj2 hP hl
  refine ⟨o, (c * 69069 + 7 * j + 11) % 18446744073709551533, (c * 69069 + 7 * j + 11) % 18446744073709551533 / 1000 % 40, ho, ?_⟩
  unfold L__law_places_1
  simp -implicitDefEqProofs only [mSeq_ev, sq_nx, sq_rt, sq_bk, sq_ct, sq_ite, of_ok, mSkip_ev, mSetN_ev, mRet_ev, mIf_ev, mFor_ev, mBk_ev, mCt_ev, eB2_ev, eU_ev, eC_ev, aNil_ev, aCons_ev, eCall_ev, eTup_ev, eLst_ev, eSl_ev, oNo_ev, oSo_ev, bOf_ev, bAnd_ev, bOr_ev, bNot_ev, asB_bl, get_mk, set_mk, gV, cI, cS, cB, cN, eF, eFz, iL, iP, iT, i1, i2, iEn, aN, eIsN, eNotN, R.bind_ok, R.map_ok, R.of_some, List.set_cons_zero, List.set_cons_succ, List.getElem?_cons_zero, List.getElem?_cons_succ, List.length_cons, List.length_nil, D.isF, isFL, if_true, if_false, Bool.false_eq_true, Bool.not_true, Bool.not_false, Bool.and_true, Bool.true_and, Bool.and_false, Bool.false_and, bName, bTup, setAll, Nat.zero_add, Nat.reduceAdd, Nat.reduceLeDiff, Nat.reduceEqDiff, List.map_cons, List.map_nil, Option.map_some, Option.bind_some, dMul_r i69, dMul_l i7, dMod_p p1, dMod_p p40, dDiv_p q1, dInt_int, addI_int]
  exact e
theorem lcp_src {d : Int} {P : List (Option Int)} {c k g : Option D} (hl : P.length < 100) : i1 (aCons (eC dLen (aCons (gV 1) aN)) aN) (sp d P c k g) = .ok (rngL 0 P.length) := by
  simp -implicitDefEqProofs only [mSeq_ev, sq_nx, sq_rt, sq_bk, sq_ct, sq_ite, of_ok, mSkip_ev, mSetN_ev, mRet_ev, mIf_ev, mFor_ev, mBk_ev, mCt_ev, eB2_ev, eU_ev, eC_ev, aNil_ev, aCons_ev, eCall_ev, eTup_ev, eLst_ev, eSl_ev, oNo_ev, oSo_ev, bOf_ev, bAnd_ev, bOr_ev, bNot_ev, asB_bl, get_mk, set_mk, gV, cI, cS, cB, cN, eF, eFz, iL, iP, iT, i1, i2, iEn, aN, eIsN, eNotN, R.bind_ok, R.map_ok, R.of_some, List.set_cons_zero, List.set_cons_succ, List.getElem?_cons_zero, List.getElem?_cons_succ, List.length_cons, List.length_nil, D.isF, isFL, if_true, if_false, Bool.false_eq_true, Bool.not_true, Bool.not_false, Bool.and_true, Bool.true_and, Bool.and_false, Bool.false_and, bName, bTup, setAll, Nat.zero_add, Nat.reduceAdd, Nat.reduceLeDiff, Nat.reduceEqDiff, List.map_cons, List.map_nil, Option.map_some, Option.bind_some, dLen_lst, List.length_map]
  exact it1_nat (Nat.lt_trans hl (by decide))
theorem lcp_get {P : List (Option Int)} {i : Nat} (hi : i < P.length) : atI (P.map oD) (i : Int) = some (oD (P.getD i none)) := by
  rw [atI_at (by omega) (by rw [List.length_map]; omega), Int.toNat_natCast, List.getElem?_map, List.getElem?_eq_getElem hi, Option.map_some, List.getD_eq_getElem?_getD, List.getElem?_eq_getElem hi]
  rfl
theorem lcp_el {d : Int} {P : List (Option Int)} {c g : Option D} {i : Int} {o : Option Int} (h : atI (P.map oD) i = some (oD o)) : bOf (eB2 dLt (gV 3) (cI 24)) (sp d P c (some (.int i)) g) = .ok (decide (i < 24)) ∧ eF (eB2 dIx (gV 1) (gV 3)) (sp d P c (some (.int i)) g) = .ok (oD o) := by
  refine ⟨?_, ?_⟩
  · simp -implicitDefEqProofs only [mSeq_ev, sq_nx, sq_rt, sq_bk, sq_ct, sq_ite, of_ok, mSkip_ev, mSetN_ev, mRet_ev, mIf_ev, mFor_ev, mBk_ev, mCt_ev, eB2_ev, eU_ev, eC_ev, aNil_ev, aCons_ev, eCall_ev, eTup_ev, eLst_ev, eSl_ev, oNo_ev, oSo_ev, bOf_ev, bAnd_ev, bOr_ev, bNot_ev, asB_bl, get_mk, set_mk, gV, cI, cS, cB, cN, eF, eFz, iL, iP, iT, i1, i2, iEn, aN, eIsN, eNotN, R.bind_ok, R.map_ok, R.of_some, List.set_cons_zero, List.set_cons_succ, List.getElem?_cons_zero, List.getElem?_cons_succ, List.length_cons, List.length_nil, D.isF, isFL, if_true, if_false, Bool.false_eq_true, Bool.not_true, Bool.not_false, Bool.and_true, Bool.true_and, Bool.and_false, Bool.false_and, bName, bTup, setAll, Nat.zero_add, Nat.reduceAdd, Nat.reduceLeDiff, Nat.reduceEqDiff, List.map_cons, List.map_nil, Option.map_some, Option.bind_some, dLt_int]
  · simp -implicitDefEqProofs only [mSeq_ev, sq_nx, sq_rt, sq_bk, sq_ct, sq_ite, of_ok, mSkip_ev, mSetN_ev, mRet_ev, mIf_ev, mFor_ev, mBk_ev, mCt_ev, eB2_ev, eU_ev, eC_ev, aNil_ev, aCons_ev, eCall_ev, eTup_ev, eLst_ev, eSl_ev, oNo_ev, oSo_ev, bOf_ev, bAnd_ev, bOr_ev, bNot_ev, asB_bl, get_mk, set_mk, gV, cI, cS, cB, cN, eF, eFz, iL, iP, iT, i1, i2, iEn, aN, eIsN, eNotN, R.bind_ok, R.map_ok, R.of_some, List.set_cons_zero, List.set_cons_succ, List.getElem?_cons_zero, List.getElem?_cons_succ, List.length_cons, List.length_nil, D.isF, isFL, if_true, if_false, Bool.false_eq_true, Bool.not_true, Bool.not_false, Bool.and_true, Bool.true_and, Bool.and_false, Bool.false_and, bName, bTup, setAll, Nat.zero_add, Nat.reduceAdd, Nat.reduceLeDiff, Nat.reduceEqDiff, List.map_cons, List.map_nil, Option.map_some, Option.bind_some, dIx_lst, h, oD_isF]
def ixD : D → Nat := fun x => match x with | .int i => i.toNat | _ => 0
def ltD : D → Bool := fun x => match x with | .int i => decide (i < 24) | _ => false
theorem lc_places {d : Int} {P : List (Option Int)} {c k g : Option D} (hP : Small P) (hl : P.length < 100) : ∃ P' : List (Option Int), Small P' ∧ P'.length < 100 ∧ C__law_places_1 (sp d P c k g) = .ok (.obj true .lst (P'.map oD)) := by
  refine ⟨((rngL 0 P.length).filter ltD).map fun x => P.getD (ixD x) none, fun x m => ?_, ?_, ?_⟩
  · obtain ⟨y, _, e⟩ := List.mem_map.mp m
    refine hP x ?_
    rw [List.getD_eq_getElem?_getD] at e
    cases z : P[ixD y]? with
    | none => rw [z] at e; cases e
    | some w =>
      rw [z] at e
      have e : w = some x := e
      exact e ▸ List.mem_of_getElem? z
  · rw [List.length_map]
    exact Nat.lt_of_le_of_lt (List.length_filter_le _ _) (by rw [rng_len]; exact hl)
  · unfold C__law_places_1
    rw [eLc_ev (xs := rngL 0 P.length) (fun x => sp d P c (some x) g) ltD (fun x => oD (P.getD (ixD x) none)) (lcp_src hl) (by rw [rng_len]; omega) ?_]
    · rw [List.map_map]; rfl
    · intro x m
      obtain ⟨i, rfl, hi⟩ := rng_mem m
      exact ⟨rfl, (lcp_el (lcp_get hi)).1, fun _ => (lcp_el (lcp_get hi)).2⟩

def nn4 : List (Option Int) := [none, none, none, none]
theorem dRepL_non : dRepL (.obj true .lst [.non]) (.int 4) = some (.obj true .lst (nn4.map oD)) := rfl
theorem dTup_o {o : Bool} {P : List (Option Int)} : dTuple [.obj o .lst (P.map oD)] = some (.tup (P.map oD)) := dTuple_ok rfl (isFL_o _)
theorem Small.app {P Q : List (Option Int)} (h : Small P) (h' : Small Q) : Small (P ++ Q) := fun x m => (List.mem_append.mp m).elim (h x) (h' x)
theorem sl24 {o : Bool} {P : List (Option Int)} : slL (.obj o .lst (P.map oD)) none (some 24) = some (.obj true .lst ((P.take (min 24 P.length)).map oD)) := by
  have e : HT.sIx (P.map oD).length (P.map oD).length (some 24) = min 24 P.length := by
    rw [List.length_map]
    exact HT.sIx_nat P.length P.length 24
  simp -implicitDefEqProofs only [slL, isFL_o, if_true, HT.sIx_none, e, List.drop_zero, Nat.sub_zero, List.map_take]
theorem places_ok {d : Int} (hd : 0 ≤ d) : ∃ P : List (Option Int), F__law_places [.int d] [] = .ok (.tup (P.map oD)) ∧ Small P ∧ P.length < 100 := by
  have p5 : (0 : Int) < 5 := by omega
  have p4 : (0 : Int) < 4 := by omega
  have q64 : (0 : Int) < 64 ∧ (64 : Int) < 1073741824 := by omega
  have q5 : (0 : Int) < 5 ∧ (5 : Int) < 1073741824 := by omega
  have n0 : 0 ≤ 22 + d % 5 := by have := mod_nn (a := d) p5; omega
  have n1 : 22 + d % 5 < 27 := by have := Int.emod_lt_of_pos d p5; omega
  have it : it1 [.int (22 + d % 5)] = .ok (rngL 0 (22 + d % 5).toNat) := it1_int n0 (by omega)
  have nlt : (22 + d % 5).toNat < 27 := by omega
  generalize hn : (22 + d % 5).toNat = n at it nlt
  obtain ⟨ρ', e, P, c, k, g, rfl, hl, hP⟩ := forL_inv (bt := bName 3) (body := L__law_places_1) (fun i ρ => ∃ (P : List (Option Int)) (c : Int) (k g : Option D), ρ = sp d P (some (.int c)) k g ∧ P.length = i ∧ Small P) (xs := rngL 0 n) (ρ := sp d [] (some (.int (d / 64))) none none) (by
    rintro i x ρ hx ⟨P, c, k, g, rfl, hl, hP⟩
    obtain ⟨rfl, hi⟩ := rng_get hx
    rw [Int.zero_add]
    obtain ⟨o, c', g', ho, e⟩ := pl_step (d := d) (c := c) (j := i) (g := g) (P := P) (by omega) (by omega) hP (by omega)
    refine ⟨_, _, rfl, .inl e, P ++ [o], c', _, _, rfl, by rw [List.length_append, hl]; rfl, hP.app fun x m => ?_⟩
    exact ho x (List.mem_singleton.mp m).symm) ⟨[], d / 64, none, none, rfl, rfl, fun x m => nomatch m⟩
  rw [rng_len] at hl
  have e' : forL (bName 3) L__law_places_1 (rngL 0 n) ⟨[some (.int d), some (.obj true .lst []), some (.int (d / 64)), none, none], []⟩ = _ := e
  have start : B__law_places ⟨[some (.int d), none, none, none, none], []⟩ = (I__law_places_3 (sp d P (some (.int c)) k g)).sq (mRet (eC dTuple (aCons (gV 1) aN))) := by
    unfold B__law_places
    simp -implicitDefEqProofs only [mSeq_ev, sq_nx, sq_rt, sq_bk, sq_ct, sq_ite, of_ok, mSkip_ev, mSetN_ev, mRet_ev, mIf_ev, mFor_ev, mBk_ev, mCt_ev, eB2_ev, eU_ev, eC_ev, aNil_ev, aCons_ev, eCall_ev, eTup_ev, eLst_ev, eSl_ev, oNo_ev, oSo_ev, bOf_ev, bAnd_ev, bOr_ev, bNot_ev, asB_bl, get_mk, set_mk, gV, cI, cS, cB, cN, eF, eFz, iL, iP, iT, i1, i2, iEn, aN, eIsN, eNotN, R.bind_ok, R.map_ok, R.of_some, List.set_cons_zero, List.set_cons_succ, List.getElem?_cons_zero, List.getElem?_cons_succ, List.length_cons, List.length_nil, D.isF, isFL, if_true, if_false, Bool.false_eq_true, Bool.not_true, Bool.not_false, Bool.and_true, Bool.true_and, Bool.and_false, Bool.false_and, bName, bTup, setAll, Nat.zero_add, Nat.reduceAdd, Nat.reduceLeDiff, Nat.reduceEqDiff, List.map_cons, List.map_nil, Option.map_some, Option.bind_some, dInt_int, dDiv_p q64, dMod_p p5, addI_int, it, e']
  have key : ∃ P' : List (Option Int), B__law_places ⟨[some (.int d), none, none, none, none], []⟩ = .rt (.tup (P'.map oD)) [] ∧ Small P' ∧ P'.length < 100 := by
    rw [start]
    unfold I__law_places_3
    by_cases h : 0 < d / 5 % 4
    · obtain ⟨P1, h1, h2, h3⟩ := lc_places (d := d) (P := P) (c := some (.int c)) (k := k) (g := g) hP (by omega)
      have ad : addL (.obj true .lst (P1.map oD)) (.obj true .lst (nn4.map oD)) = some (.obj true .lst ((P1 ++ nn4).map oD)) := by
        rw [addL_ok (isFL_o _) (isFL_o _) (by rw [List.length_map, List.length_map]; show P1.length + 4 ≤ _; omega), List.map_append]
      refine ⟨(P1 ++ nn4).take (min 24 (P1 ++ nn4).length), ?_, fun x m => (h1.app fun x m => by simp [nn4] at m) x (List.mem_of_mem_take m), ?_⟩
      · simp -implicitDefEqProofs only [mSeq_ev, sq_nx, sq_rt, sq_bk, sq_ct, sq_ite, of_ok, mSkip_ev, mSetN_ev, mRet_ev, mIf_ev, mFor_ev, mBk_ev, mCt_ev, eB2_ev, eU_ev, eC_ev, aNil_ev, aCons_ev, eCall_ev, eTup_ev, eLst_ev, eSl_ev, oNo_ev, oSo_ev, bOf_ev, bAnd_ev, bOr_ev, bNot_ev, asB_bl, get_mk, set_mk, gV, cI, cS, cB, cN, eF, eFz, iL, iP, iT, i1, i2, iEn, aN, eIsN, eNotN, R.bind_ok, R.map_ok, R.of_some, List.set_cons_zero, List.set_cons_succ, List.getElem?_cons_zero, List.getElem?_cons_succ, List.length_cons, List.length_nil, D.isF, isFL, if_true, if_false, Bool.false_eq_true, Bool.not_true, Bool.not_false, Bool.and_true, Bool.true_and, Bool.and_false, Bool.false_and, bName, bTup, setAll, Nat.zero_add, Nat.reduceAdd, Nat.reduceLeDiff, Nat.reduceEqDiff, List.map_cons, List.map_nil, Option.map_some, Option.bind_some, dInt_int, dDiv_p q5, dMod_p p4, dGt_int, decide_eq_true h, h3, dRepL_non, ad, sl24, dTup_o]
      · rw [List.length_take]
        exact Nat.lt_of_le_of_lt (Nat.min_le_left _ _) (Nat.lt_of_le_of_lt (Nat.min_le_left _ _) (by decide))
    · refine ⟨P, ?_, hP, by omega⟩
      simp -implicitDefEqProofs only [mSeq_ev, sq_nx, sq_rt, sq_bk, sq_ct, sq_ite, of_ok, mSkip_ev, mSetN_ev, mRet_ev, mIf_ev, mFor_ev, mBk_ev, mCt_ev, eB2_ev, eU_ev, eC_ev, aNil_ev, aCons_ev, eCall_ev, eTup_ev, eLst_ev, eSl_ev, oNo_ev, oSo_ev, bOf_ev, bAnd_ev, bOr_ev, bNot_ev, asB_bl, get_mk, set_mk, gV, cI, cS, cB, cN, eF, eFz, iL, iP, iT, i1, i2, iEn, aN, eIsN, eNotN, R.bind_ok, R.map_ok, R.of_some, List.set_cons_zero, List.set_cons_succ, List.getElem?_cons_zero, List.getElem?_cons_succ, List.length_cons, List.length_nil, D.isF, isFL, if_true, if_false, Bool.false_eq_true, Bool.not_true, Bool.not_false, Bool.and_true, Bool.true_and, Bool.and_false, Bool.false_and, bName, bTup, setAll, Nat.zero_add, Nat.reduceAdd, Nat.reduceLeDiff, Nat.reduceEqDiff, List.map_cons, List.map_nil, Option.map_some, Option.bind_some, dInt_int, dDiv_p q5, dMod_p p4, dGt_int, decide_eq_false h, dTup_o]
  obtain ⟨P', e1, e2, e3⟩ := key
  exact ⟨P', fnP_rt (bx' := []) e1, e2, e3⟩

/-! ### _law_root -/
def rootD (s : Int) (J : List Int) (P : List (Option Int)) (m : Nat) (B : List Int) : D := .tup [.str "root", .int s, .int 7, .non, .tup (J.map .int), .tup (P.map oD), .tup (List.replicate m (.int 1)), .tup (B.map .int)]
structure RootOk (s : Int) (J : List Int) (P : List (Option Int)) (m : Nat) (B : List Int) : Prop where
  s1 : 1 ≤ s
  s2 : s ≤ 5
  j1 : J.length ≤ 3
  j2 : ∀ x ∈ J, 0 ≤ x ∧ x < 26
  p1 : Small P
  p2 : P.length < 100
  m1 : 23 ≤ m
  m2 : m ≤ 25
  b1 : B.length ≤ 4
  b2 : ∀ x ∈ B, 0 ≤ x ∧ x < 25
theorem five {a b c d e : Int} {k : Int} (h0 : 0 ≤ k) (h5 : k < 5) : ∃ m : Int, (m = a ∨ m = b ∨ m = c ∨ m = d ∨ m = e) ∧ atI [D.int a, D.int b, D.int c, D.int d, D.int e] k = some (.int m) := by
  have : k = 0 ∨ k = 1 ∨ k = 2 ∨ k = 3 ∨ k = 4 := by omega
  rcases this with rfl | rfl | rfl | rfl | rfl
  · exact ⟨a, .inl rfl, rfl⟩
  · exact ⟨b, .inr (.inl rfl), rfl⟩
  · exact ⟨c, .inr (.inr (.inl rfl)), rfl⟩
  · exact ⟨d, .inr (.inr (.inr (.inl rfl))), rfl⟩
  · exact ⟨e, .inr (.inr (.inr (.inr rfl))), rfl⟩
theorem rep_ones {m : Int} (h : 23 ≤ m) (h2 : m ≤ 25) : dRepT (.tup [.int 1]) (.int m) = some (.tup (List.replicate m.toNat (.int 1))) := by
  have c : [D.int 1] ≠ [] ∧ 2 ≤ m ∧ m ≤ 1000 ∧ [D.int 1].length ≤ 1000 := ⟨List.cons_ne_nil _ _, by omega, by omega, by decide⟩
  simp -implicitDefEqProofs only [dRepT, if_pos c, List.flatten_replicate_singleton]
/-- a comprehension over a range, ints for its items -/
theorem lc_ints {vs : List Nat} {fe : EX} {fx : S → R (List D)} {ρ : S} {n i : Nat} (s : Int → S) (f : Int → Int) (hx : fx ρ = .ok (rngL 0 n)) (hn : n ≤ 100) (hb : ∀ j, (bName i) (.int j) (ρ.wipe vs) = .ok (s j)) (he : ∀ j : Int, 0 ≤ j → j < n → fe (s j) = .ok (.int (f j))) :
    eLc vs (bName i) bYes fe fx ρ = .ok (.obj true .lst (((List.range n).map fun (j : Nat) => f (j : Int)).map D.int)) := by
  let un : D → Int := fun x => match x with | .int j => j | _ => 0
  rw [eLc_ev (xs := rngL 0 n) (fun x => s (un x)) (fun _ => true) (fun x => .int (f (un x))) hx (by rw [rng_len]; omega) ?_]
  · have e : (rngL 0 n).filter (fun _ => true) = rngL 0 n := List.filter_eq_self.mpr fun _ _ => rfl
    rw [e]
    unfold rngL
    rw [List.map_map, List.map_map]
    congr 2
    refine List.map_congr_left fun j _ => ?_
    show D.int (f (0 + (j : Int))) = D.int (f j)
    rw [Int.zero_add]
  · intro x m
    obtain ⟨j, rfl, hj⟩ := rng_mem m
    exact ⟨hb j, rfl, fun _ => he j (by omega) (by omega)⟩
theorem root_ok {q0 q1 q2 q3 : Int} (h0 : 0 ≤ q0) (h1 : 0 ≤ q1) (h2 : 0 ≤ q2) (h3 : 0 ≤ q3) : ∃ s J P m B, RootOk s J P m B ∧ F__law_root [.obj false .lst [.int q0, .int q1, .int q2, .int q3]] [] = .ok (rootD s J P m B) := by
  have p5 : (0 : Int) < 5 := by omega
  have p26 : (0 : Int) < 26 := by omega
  have p25 : (0 : Int) < 25 := by omega
  have q5 : (0 : Int) < 5 ∧ (5 : Int) < 1073741824 := by omega
  have q7 : (0 : Int) < 7 ∧ (7 : Int) < 1073741824 := by omega
  obtain ⟨P, eP, P1, P2⟩ := places_ok h0
  obtain ⟨m, hm, em⟩ := five (a := 24) (b := 24) (c := 24) (d := 23) (e := 25) (mod_nn (a := q1) p5) (Int.emod_lt_of_pos q1 p5)
  obtain ⟨nj, hj, ej⟩ := five (a := 2) (b := 2) (c := 2) (d := 0) (e := 3) (mod_nn (a := q1 / 5 / 7) p5) (Int.emod_lt_of_pos (q1 / 5 / 7) p5)
  have g0 : atI [D.int q0, D.int q1, D.int q2, D.int q3] 0 = some (.int q0) := rfl
  have g1 : atI [D.int q0, D.int q1, D.int q2, D.int q3] 1 = some (.int q1) := rfl
  have g2 : atI [D.int q0, D.int q1, D.int q2, D.int q3] 2 = some (.int q2) := rfl
  have g3 : atI [D.int q0, D.int q1, D.int q2, D.int q3] 3 = some (.int q3) := rfl
  have itj : it1 [.int nj] = .ok (rngL 0 nj.toNat) := it1_int (by omega) (by omega)
  have b0 := mod_nn (a := q2) p5
  have b5 := Int.emod_lt_of_pos q2 p5
  have itb : it1 [.int (q2 % 5)] = .ok (rngL 0 (q2 % 5).toNat) := it1_int b0 (by omega)
  have ones := rep_ones (m := m) (by omega) (by omega)
  have c1 : ∀ a b : Option D, C__law_root_1 ⟨[some (.obj false .lst [.int q0, .int q1, .int q2, .int q3]), some (.tup (P.map oD)), some (.tup (List.replicate m.toNat (.int 1))), some (.int (q1 / 5)), a, none, b], []⟩ = .ok (.obj true .lst (((List.range nj.toNat).map fun (j : Nat) => q1 / 5 / ((j : Int) + 1) % 26).map D.int)) := fun a b => by
    unfold C__law_root_1
    refine lc_ints (fun j => ⟨[some (.obj false .lst [.int q0, .int q1, .int q2, .int q3]), some (.tup (P.map oD)), some (.tup (List.replicate m.toNat (.int 1))), some (.int (q1 / 5)), a, some (.int j), b], []⟩) (fun j => q1 / 5 / (j + 1) % 26) ?_ (by omega) (fun j => rfl) fun j k1 k2 => ?_
    · simp -implicitDefEqProofs only [mSeq_ev, sq_nx, sq_rt, sq_bk, sq_ct, sq_ite, of_ok, mSkip_ev, mSetN_ev, mRet_ev, mIf_ev, mFor_ev, mBk_ev, mCt_ev, eB2_ev, eU_ev, eC_ev, aNil_ev, aCons_ev, eCall_ev, eTup_ev, eLst_ev, eSl_ev, oNo_ev, oSo_ev, bOf_ev, bAnd_ev, bOr_ev, bNot_ev, asB_bl, get_mk, set_mk, gV, cI, cS, cB, cN, eF, eFz, iL, iP, iT, i1, i2, iEn, aN, eIsN, eNotN, R.bind_ok, R.map_ok, R.of_some, List.set_cons_zero, List.set_cons_succ, List.getElem?_cons_zero, List.getElem?_cons_succ, List.length_cons, List.length_nil, D.isF, isFL, if_true, if_false, Bool.false_eq_true, Bool.not_true, Bool.not_false, Bool.and_true, Bool.true_and, Bool.and_false, Bool.false_and, bName, bTup, setAll, Nat.zero_add, Nat.reduceAdd, Nat.reduceLeDiff, Nat.reduceEqDiff, List.map_cons, List.map_nil, Option.map_some, Option.bind_some, dInt_int, dDiv_p q7, dMod_p p5, dIx_lst, ej, itj]
    · have qj : 0 < j + 1 ∧ j + 1 < 1073741824 := by omega
      simp -implicitDefEqProofs only [mSeq_ev, sq_nx, sq_rt, sq_bk, sq_ct, sq_ite, of_ok, mSkip_ev, mSetN_ev, mRet_ev, mIf_ev, mFor_ev, mBk_ev, mCt_ev, eB2_ev, eU_ev, eC_ev, aNil_ev, aCons_ev, eCall_ev, eTup_ev, eLst_ev, eSl_ev, oNo_ev, oSo_ev, bOf_ev, bAnd_ev, bOr_ev, bNot_ev, asB_bl, get_mk, set_mk, gV, cI, cS, cB, cN, eF, eFz, iL, iP, iT, i1, i2, iEn, aN, eIsN, eNotN, R.bind_ok, R.map_ok, R.of_some, List.set_cons_zero, List.set_cons_succ, List.getElem?_cons_zero, List.getElem?_cons_succ, List.length_cons, List.length_nil, D.isF, isFL, if_true, if_false, Bool.false_eq_true, Bool.not_true, Bool.not_false, Bool.and_true, Bool.true_and, Bool.and_false, Bool.false_and, bName, bTup, setAll, Nat.zero_add, Nat.reduceAdd, Nat.reduceLeDiff, Nat.reduceEqDiff, List.map_cons, List.map_nil, Option.map_some, Option.bind_some, dInt_int, addI_int, dDiv_p qj, dMod_p p26]
  have c2 : ∀ a b : Option D, C__law_root_2 ⟨[some (.obj false .lst [.int q0, .int q1, .int q2, .int q3]), some (.tup (P.map oD)), some (.tup (List.replicate m.toNat (.int 1))), some (.int (q1 / 5)), a, none, b], []⟩ = .ok (.obj true .lst (((List.range (q2 % 5).toNat).map fun (j : Nat) => q2 / ((j : Int) + 3) % 25).map D.int)) := fun a b => by
    unfold C__law_root_2
    refine lc_ints (fun j => ⟨[some (.obj false .lst [.int q0, .int q1, .int q2, .int q3]), some (.tup (P.map oD)), some (.tup (List.replicate m.toNat (.int 1))), some (.int (q1 / 5)), a, some (.int j), b], []⟩) (fun j => q2 / (j + 3) % 25) ?_ (by omega) (fun j => rfl) fun j k1 k2 => ?_
    · simp -implicitDefEqProofs only [mSeq_ev, sq_nx, sq_rt, sq_bk, sq_ct, sq_ite, of_ok, mSkip_ev, mSetN_ev, mRet_ev, mIf_ev, mFor_ev, mBk_ev, mCt_ev, eB2_ev, eU_ev, eC_ev, aNil_ev, aCons_ev, eCall_ev, eTup_ev, eLst_ev, eSl_ev, oNo_ev, oSo_ev, bOf_ev, bAnd_ev, bOr_ev, bNot_ev, asB_bl, get_mk, set_mk, gV, cI, cS, cB, cN, eF, eFz, iL, iP, iT, i1, i2, iEn, aN, eIsN, eNotN, R.bind_ok, R.map_ok, R.of_some, List.set_cons_zero, List.set_cons_succ, List.getElem?_cons_zero, List.getElem?_cons_succ, List.length_cons, List.length_nil, D.isF, isFL, if_true, if_false, Bool.false_eq_true, Bool.not_true, Bool.not_false, Bool.and_true, Bool.true_and, Bool.and_false, Bool.false_and, bName, bTup, setAll, Nat.zero_add, Nat.reduceAdd, Nat.reduceLeDiff, Nat.reduceEqDiff, List.map_cons, List.map_nil, Option.map_some, Option.bind_some, dInt_int, dMod_p p5, dIx_lst, g2, itb]
    · have qj : 0 < j + 3 ∧ j + 3 < 1073741824 := by omega
      simp -implicitDefEqProofs only [mSeq_ev, sq_nx, sq_rt, sq_bk, sq_ct, sq_ite, of_ok, mSkip_ev, mSetN_ev, mRet_ev, mIf_ev, mFor_ev, mBk_ev, mCt_ev, eB2_ev, eU_ev, eC_ev, aNil_ev, aCons_ev, eCall_ev, eTup_ev, eLst_ev, eSl_ev, oNo_ev, oSo_ev, bOf_ev, bAnd_ev, bOr_ev, bNot_ev, asB_bl, get_mk, set_mk, gV, cI, cS, cB, cN, eF, eFz, iL, iP, iT, i1, i2, iEn, aN, eIsN, eNotN, R.bind_ok, R.map_ok, R.of_some, List.set_cons_zero, List.set_cons_succ, List.getElem?_cons_zero, List.getElem?_cons_succ, List.length_cons, List.length_nil, D.isF, isFL, if_true, if_false, Bool.false_eq_true, Bool.not_true, Bool.not_false, Bool.and_true, Bool.true_and, Bool.and_false, Bool.false_and, bName, bTup, setAll, Nat.zero_add, Nat.reduceAdd, Nat.reduceLeDiff, Nat.reduceEqDiff, List.map_cons, List.map_nil, Option.map_some, Option.bind_some, dInt_int, addI_int, dDiv_p qj, dMod_p p25, dIx_lst, g2]
  refine ⟨1 + q3 % 5, (List.range nj.toNat).map fun (j : Nat) => q1 / 5 / ((j : Int) + 1) % 26, P, m.toNat, (List.range (q2 % 5).toNat).map fun (j : Nat) => q2 / ((j : Int) + 3) % 25, ⟨?_, ?_, ?_, ?_, P1, P2, by omega, by omega, ?_, ?_⟩, fnP_rt (bx' := []) ?_⟩
  · have := mod_nn (a := q3) p5; omega
  · have := Int.emod_lt_of_pos q3 p5; omega
  · rw [List.length_map, List.length_range]; omega
  · intro x hx
    obtain ⟨j, _, rfl⟩ := List.mem_map.mp hx
    exact ⟨mod_nn p26, Int.emod_lt_of_pos _ p26⟩
  · rw [List.length_map, List.length_range]; omega
  · intro x hx
    obtain ⟨j, _, rfl⟩ := List.mem_map.mp hx
    exact ⟨mod_nn p25, Int.emod_lt_of_pos _ p25⟩
  · show B__law_root ⟨[some (.obj false .lst [.int q0, .int q1, .int q2, .int q3]), none, none, none, none, none, none], []⟩ = _
    unfold B__law_root
    generalize ((List.range nj.toNat).map fun (j : Nat) => q1 / 5 / ((j : Int) + 1) % 26) = J at c1 ⊢
    generalize ((List.range (q2 % 5).toNat).map fun (j : Nat) => q2 / ((j : Int) + 3) % 25) = B at c2 ⊢
    have t1 : ∀ l : List Int, dTuple [.obj true .lst (l.map D.int)] = some (.tup (l.map D.int)) := fun l => dTuple_ok rfl (isFL_ints l)
    have iso : isFL (List.replicate m.toNat (D.int 1)) = true := isFL_of fun x hx => by rw [List.eq_of_mem_replicate hx]; rfl
    simp -implicitDefEqProofs only [mSeq_ev, sq_nx, sq_rt, sq_bk, sq_ct, sq_ite, of_ok, mSkip_ev, mSetN_ev, mRet_ev, mIf_ev, mFor_ev, mBk_ev, mCt_ev, eB2_ev, eU_ev, eC_ev, aNil_ev, aCons_ev, eCall_ev, eTup_ev, eLst_ev, eSl_ev, oNo_ev, oSo_ev, bOf_ev, bAnd_ev, bOr_ev, bNot_ev, asB_bl, get_mk, set_mk, gV, cI, cS, cB, cN, eF, eFz, iL, iP, iT, i1, i2, iEn, aN, eIsN, eNotN, R.bind_ok, R.map_ok, R.of_some, List.set_cons_zero, List.set_cons_succ, List.getElem?_cons_zero, List.getElem?_cons_succ, List.length_cons, List.length_nil, D.isF, isFL, if_true, if_false, Bool.false_eq_true, Bool.not_true, Bool.not_false, Bool.and_true, Bool.true_and, Bool.and_false, Bool.false_and, bName, bTup, setAll, Nat.zero_add, Nat.reduceAdd, Nat.reduceLeDiff, Nat.reduceEqDiff, List.map_cons, List.map_nil, Option.map_some, Option.bind_some, dInt_int, dIx_lst, g0, g1, g2, g3, eP, em, ones, dDiv_p q5, dMod_p p5, c1, c2, t1, addI_int, isFL_ints, isFL_o, iso, rootD]
end K81

set_option Elab.async false
set_option linter.all false
set_option maxRecDepth 100000
set_option maxHeartbeats 4000000
namespace K81
open PySem L2 Tm
/-! ### the words -/
def mp (P : List (Option Int)) : List Int := P.filterMap id
def jb (P : List (Option Int)) (x : Int) : Bool := decide ((P.length : Int) ≤ x) || (P.getD x.toNat none).isNone
def jw (P : List (Option Int)) (J : List Int) : Bool := !decide J.Nodup || J.any (jb P)
def wd (c : Bool) (w : Str) : List Str := if c = true then [w] else []
def words (P : List (Option Int)) (J B : List Int) (m : Nat) (b : Int) : List Str :=
  wd (!((P.length : Int) == 24)) "map length" ++ wd (!((m : Int) == 24)) "erases length" ++ wd ((mp P ++ J ++ B).any fun x => decide (24 ≤ x)) "block number" ++ wd (!decide (mp P).Nodup) "map twice" ++ wd (decide (b ∈ mp P)) "anchor mapped" ++ wd (jw P J) "journal"
theorem mp_len : ∀ P : List (Option Int), (mp P).length ≤ P.length := fun P => List.length_filterMap_le _ _
theorem isNon_o (o : Option Int) : Tm.isNon (oD o) = o.isNone := by cases o <;> rfl
theorem notN_mp : ∀ P : List (Option Int), (((P.map oD).filter fun d => !Tm.isNon d).map id) = (mp P).map D.int
  | [] => rfl
  | none :: r => by
    have ih := notN_mp r
    rw [List.map_cons, List.filter_cons_of_neg (by rw [isNon_o]; decide)]
    exact ih
  | some x :: r => by
    have ih := notN_mp r
    rw [List.map_cons, List.filter_cons_of_pos (by rw [isNon_o]; rfl), List.map_cons, ih]
    rfl
theorem lc_mp {vs : List Nat} {i : Nat} {fx : S → R (List D)} {ρ : S} {P : List (Option Int)} (s : D → S) (hx : fx ρ = .ok (P.map oD)) (hl : P.length < 1000) (hb : ∀ d, (bName i) d (ρ.wipe vs) = .ok (s d)) (hg : ∀ d, S.get (s d) i = .ok d) :
    eLc vs (bName i) (bOf (eNotN (gV i))) (eF (gV i)) fx ρ = .ok (.obj true .lst ((mp P).map .int)) := by
  rw [eLc_ev (xs := P.map oD) s (fun d => !Tm.isNon d) id hx (by rw [List.length_map]; omega) ?_, notN_mp]
  intro d m
  obtain ⟨o, _, rfl⟩ := List.mem_map.mp m
  refine ⟨hb _, ?_, fun _ => ?_⟩
  · simp -implicitDefEqProofs only [mSeq_ev, sq_nx, sq_rt, sq_bk, sq_ct, sq_ite, of_ok, mSkip_ev, mSetN_ev, mRet_ev, mIf_ev, mFor_ev, mBk_ev, mCt_ev, eB2_ev, eU_ev, eC_ev, aNil_ev, aCons_ev, eCall_ev, eTup_ev, eLst_ev, eSl_ev, oNo_ev, oSo_ev, bOf_ev, bAnd_ev, bOr_ev, bNot_ev, asB_bl, get_mk, set_mk, gV, cI, cS, cB, cN, eF, eFz, iL, iP, iT, i1, i2, iEn, aN, eIsN, eNotN, R.bind_ok, R.map_ok, R.of_some, List.set_cons_zero, List.set_cons_succ, List.getElem?_cons_zero, List.getElem?_cons_succ, List.length_cons, List.length_nil, D.isF, isFL, if_true, if_false, Bool.false_eq_true, Bool.not_true, Bool.not_false, Bool.and_true, Bool.true_and, Bool.and_false, Bool.false_and, bName, bTup, setAll, Nat.zero_add, Nat.reduceAdd, Nat.reduceLeDiff, Nat.reduceEqDiff, List.map_cons, List.map_nil, Option.map_some, Option.bind_some, hg]
  · simp -implicitDefEqProofs only [mSeq_ev, sq_nx, sq_rt, sq_bk, sq_ct, sq_ite, of_ok, mSkip_ev, mSetN_ev, mRet_ev, mIf_ev, mFor_ev, mBk_ev, mCt_ev, eB2_ev, eU_ev, eC_ev, aNil_ev, aCons_ev, eCall_ev, eTup_ev, eLst_ev, eSl_ev, oNo_ev, oSo_ev, bOf_ev, bAnd_ev, bOr_ev, bNot_ev, asB_bl, get_mk, set_mk, gV, cI, cS, cB, cN, eF, eFz, iL, iP, iT, i1, i2, iEn, aN, eIsN, eNotN, R.bind_ok, R.map_ok, R.of_some, List.set_cons_zero, List.set_cons_succ, List.getElem?_cons_zero, List.getElem?_cons_succ, List.length_cons, List.length_nil, D.isF, isFL, if_true, if_false, Bool.false_eq_true, Bool.not_true, Bool.not_false, Bool.and_true, Bool.true_and, Bool.and_false, Bool.false_and, bName, bTup, setAll, Nat.zero_add, Nat.reduceAdd, Nat.reduceLeDiff, Nat.reduceEqDiff, List.map_cons, List.map_nil, Option.map_some, Option.bind_some, hg, oD_isF]
    rfl
theorem len_o {P : List (Option Int)} : (P.map oD).length = P.length := List.length_map _
theorem nub_ne {l : List Int} : (!(((nub l).length : Int) == (l.length : Int))) = !decide l.Nodup := by
  congr 1
  by_cases h : l.Nodup
  · rw [decide_eq_true h, (nub_len_eq l).mpr h]
    exact beq_self_eq_true _
  · rw [decide_eq_false h]
    exact beq_eq_false_iff_ne.mpr fun e => h ((nub_len_eq l).mp (by omega))
/-! the program's own -/
theorem atP {P : List (Option Int)} {x : Int} (h0 : 0 ≤ x) (h : ¬ (P.length : Int) ≤ x) : atI (P.map oD) x = some (oD (P.getD x.toNat none)) := by
  have hx : x.toNat < P.length := by omega
  rw [atI_at h0 (by rw [len_o]; omega), List.getElem?_map, List.getElem?_eq_getElem hx, Option.map_some, List.getD_eq_getElem?_getD, List.getElem?_eq_getElem hx]
  rfl
theorem ix4 {s : Int} {J B : List Int} {P : List (Option Int)} {m : Nat} : dIx (rootD s J P m B) (.int 4) = some (.tup (J.map .int)) := rfl
theorem ix5 {s : Int} {J B : List Int} {P : List (Option Int)} {m : Nat} : dIx (rootD s J P m B) (.int 5) = some (.tup (P.map oD)) := rfl
theorem ix6 {s : Int} {J B : List Int} {P : List (Option Int)} {m : Nat} : dIx (rootD s J P m B) (.int 6) = some (.tup (List.replicate m (.int 1))) := rfl
theorem ix7 {s : Int} {J B : List Int} {P : List (Option Int)} {m : Nat} : dIx (rootD s J P m B) (.int 7) = some (.tup (B.map .int)) := rfl
theorem root_isF {s : Int} {J B : List Int} {P : List (Option Int)} {m : Nat} : (rootD s J P m B).isF = true := by
  have iso : isFL (List.replicate m (D.int 1)) = true := isFL_of fun x hx => by rw [List.eq_of_mem_replicate hx]; rfl
  simp -implicitDefEqProofs only [rootD, D.isF, isFL, isFL_ints, isFL_o, iso, Bool.and_self]
theorem journal_ok {s : Int} {J B : List Int} {P : List (Option Int)} {m : Nat} (ok : RootOk s J P m B) : F_is_journal_wrong [rootD s J P m B] [] = .ok (.bl (jw P J)) := by
  refine fnP_rt (bx' := []) ?_
  show B_is_journal_wrong ⟨[some (rootD s J P m B), none, none, none], []⟩ = _
  have hl := ok.j1
  have d1 : dLenSet (.tup (J.map .int)) = some (.int (nub J).length) := dLenSet_ok rfl (by omega)
  have c1 : C_is_journal_wrong_1 ⟨[some (rootD s J P m B), some (.tup (J.map .int)), some (.tup (P.map oD)), none], []⟩ = .ok (.obj true .lst ((J.map (jb P)).map .bl)) := by
    let un : D → Int := fun x => match x with | .int j => j | _ => 0
    unfold C_is_journal_wrong_1
    rw [eLc_ev (xs := J.map .int) (fun d => ⟨[some (rootD s J P m B), some (.tup (J.map .int)), some (.tup (P.map oD)), some d], []⟩) (fun _ => true) (fun d => .bl (jb P (un d))) ?_ (by rw [List.length_map]; omega) ?_]
    · have e : (J.map D.int).filter (fun _ => true) = J.map D.int := List.filter_eq_self.mpr fun _ _ => rfl
      rw [e, List.map_map, List.map_map]
      rfl
    · simp -implicitDefEqProofs only [mSeq_ev, sq_nx, sq_rt, sq_bk, sq_ct, sq_ite, of_ok, mSkip_ev, mSetN_ev, mRet_ev, mIf_ev, mFor_ev, mBk_ev, mCt_ev, eB2_ev, eU_ev, eC_ev, aNil_ev, aCons_ev, eCall_ev, eTup_ev, eLst_ev, eSl_ev, oNo_ev, oSo_ev, bOf_ev, bAnd_ev, bOr_ev, bNot_ev, asB_bl, get_mk, set_mk, gV, cI, cS, cB, cN, eF, eFz, iL, iP, iT, i1, i2, iEn, aN, eIsN, eNotN, R.bind_ok, R.map_ok, R.of_some, List.set_cons_zero, List.set_cons_succ, List.getElem?_cons_zero, List.getElem?_cons_succ, List.length_cons, List.length_nil, D.isF, isFL, if_true, if_false, Bool.false_eq_true, Bool.not_true, Bool.not_false, Bool.and_true, Bool.true_and, Bool.and_false, Bool.false_and, bName, bTup, setAll, Nat.zero_add, Nat.reduceAdd, Nat.reduceLeDiff, Nat.reduceEqDiff, List.map_cons, List.map_nil, Option.map_some, Option.bind_some, isFL_ints, itT]
    · intro d hd
      obtain ⟨x, hx, rfl⟩ := List.mem_map.mp hd
      obtain ⟨x0, x1⟩ := ok.j2 x hx
      refine ⟨rfl, rfl, fun _ => ?_⟩
      show _ = R.ok (D.bl (jb P x))
      unfold jb
      by_cases c : (P.length : Int) ≤ x
      · rw [eOr_ev (x := true) (by simp -implicitDefEqProofs only [mSeq_ev, sq_nx, sq_rt, sq_bk, sq_ct, sq_ite, of_ok, mSkip_ev, mSetN_ev, mRet_ev, mIf_ev, mFor_ev, mBk_ev, mCt_ev, eB2_ev, eU_ev, eC_ev, aNil_ev, aCons_ev, eCall_ev, eTup_ev, eLst_ev, eSl_ev, oNo_ev, oSo_ev, bOf_ev, bAnd_ev, bOr_ev, bNot_ev, asB_bl, get_mk, set_mk, gV, cI, cS, cB, cN, eF, eFz, iL, iP, iT, i1, i2, iEn, aN, eIsN, eNotN, R.bind_ok, R.map_ok, R.of_some, List.set_cons_zero, List.set_cons_succ, List.getElem?_cons_zero, List.getElem?_cons_succ, List.length_cons, List.length_nil, D.isF, isFL, if_true, if_false, Bool.false_eq_true, Bool.not_true, Bool.not_false, Bool.and_true, Bool.true_and, Bool.and_false, Bool.false_and, bName, bTup, setAll, Nat.zero_add, Nat.reduceAdd, Nat.reduceLeDiff, Nat.reduceEqDiff, List.map_cons, List.map_nil, Option.map_some, Option.bind_some, dGe_int, dLen_tup, len_o, decide_eq_true c])]
        simp -implicitDefEqProofs only [mSeq_ev, sq_nx, sq_rt, sq_bk, sq_ct, sq_ite, of_ok, mSkip_ev, mSetN_ev, mRet_ev, mIf_ev, mFor_ev, mBk_ev, mCt_ev, eB2_ev, eU_ev, eC_ev, aNil_ev, aCons_ev, eCall_ev, eTup_ev, eLst_ev, eSl_ev, oNo_ev, oSo_ev, bOf_ev, bAnd_ev, bOr_ev, bNot_ev, asB_bl, get_mk, set_mk, gV, cI, cS, cB, cN, eF, eFz, iL, iP, iT, i1, i2, iEn, aN, eIsN, eNotN, R.bind_ok, R.map_ok, R.of_some, List.set_cons_zero, List.set_cons_succ, List.getElem?_cons_zero, List.getElem?_cons_succ, List.length_cons, List.length_nil, D.isF, isFL, if_true, if_false, Bool.false_eq_true, Bool.not_true, Bool.not_false, Bool.and_true, Bool.true_and, Bool.and_false, Bool.false_and, bName, bTup, setAll, Nat.zero_add, Nat.reduceAdd, Nat.reduceLeDiff, Nat.reduceEqDiff, List.map_cons, List.map_nil, Option.map_some, Option.bind_some, decide_eq_true c, Bool.true_or]
      · rw [eOr_ev (x := false) (by simp -implicitDefEqProofs only [mSeq_ev, sq_nx, sq_rt, sq_bk, sq_ct, sq_ite, of_ok, mSkip_ev, mSetN_ev, mRet_ev, mIf_ev, mFor_ev, mBk_ev, mCt_ev, eB2_ev, eU_ev, eC_ev, aNil_ev, aCons_ev, eCall_ev, eTup_ev, eLst_ev, eSl_ev, oNo_ev, oSo_ev, bOf_ev, bAnd_ev, bOr_ev, bNot_ev, asB_bl, get_mk, set_mk, gV, cI, cS, cB, cN, eF, eFz, iL, iP, iT, i1, i2, iEn, aN, eIsN, eNotN, R.bind_ok, R.map_ok, R.of_some, List.set_cons_zero, List.set_cons_succ, List.getElem?_cons_zero, List.getElem?_cons_succ, List.length_cons, List.length_nil, D.isF, isFL, if_true, if_false, Bool.false_eq_true, Bool.not_true, Bool.not_false, Bool.and_true, Bool.true_and, Bool.and_false, Bool.false_and, bName, bTup, setAll, Nat.zero_add, Nat.reduceAdd, Nat.reduceLeDiff, Nat.reduceEqDiff, List.map_cons, List.map_nil, Option.map_some, Option.bind_some, dGe_int, dLen_tup, len_o, decide_eq_false c])]
        simp -implicitDefEqProofs only [mSeq_ev, sq_nx, sq_rt, sq_bk, sq_ct, sq_ite, of_ok, mSkip_ev, mSetN_ev, mRet_ev, mIf_ev, mFor_ev, mBk_ev, mCt_ev, eB2_ev, eU_ev, eC_ev, aNil_ev, aCons_ev, eCall_ev, eTup_ev, eLst_ev, eSl_ev, oNo_ev, oSo_ev, bOf_ev, bAnd_ev, bOr_ev, bNot_ev, asB_bl, get_mk, set_mk, gV, cI, cS, cB, cN, eF, eFz, iL, iP, iT, i1, i2, iEn, aN, eIsN, eNotN, R.bind_ok, R.map_ok, R.of_some, List.set_cons_zero, List.set_cons_succ, List.getElem?_cons_zero, List.getElem?_cons_succ, List.length_cons, List.length_nil, D.isF, isFL, if_true, if_false, Bool.false_eq_true, Bool.not_true, Bool.not_false, Bool.and_true, Bool.true_and, Bool.and_false, Bool.false_and, bName, bTup, setAll, Nat.zero_add, Nat.reduceAdd, Nat.reduceLeDiff, Nat.reduceEqDiff, List.map_cons, List.map_nil, Option.map_some, Option.bind_some, decide_eq_false c, Bool.false_or, dIx_tup, atP x0 c, isNon_o]
  unfold B_is_journal_wrong I_is_journal_wrong_1
  simp -implicitDefEqProofs only [mSeq_ev, sq_nx, sq_rt, sq_bk, sq_ct, sq_ite, of_ok, mSkip_ev, mSetN_ev, mRet_ev, mIf_ev, mFor_ev, mBk_ev, mCt_ev, eB2_ev, eU_ev, eC_ev, aNil_ev, aCons_ev, eCall_ev, eTup_ev, eLst_ev, eSl_ev, oNo_ev, oSo_ev, bOf_ev, bAnd_ev, bOr_ev, bNot_ev, asB_bl, get_mk, set_mk, gV, cI, cS, cB, cN, eF, eFz, iL, iP, iT, i1, i2, iEn, aN, eIsN, eNotN, R.bind_ok, R.map_ok, R.of_some, List.set_cons_zero, List.set_cons_succ, List.getElem?_cons_zero, List.getElem?_cons_succ, List.length_cons, List.length_nil, D.isF, isFL, if_true, if_false, Bool.false_eq_true, Bool.not_true, Bool.not_false, Bool.and_true, Bool.true_and, Bool.and_false, Bool.false_and, bName, bTup, setAll, Nat.zero_add, Nat.reduceAdd, Nat.reduceLeDiff, Nat.reduceEqDiff, List.map_cons, List.map_nil, Option.map_some, Option.bind_some, ix4, ix5, isFL_ints, isFL_o, d1, dLen_tup, List.length_map, dNe_int, nub_ne, c1, dAny_ok, List.any_map]
  unfold jw
  by_cases h : J.Nodup
  · simp -implicitDefEqProofs only [mSeq_ev, sq_nx, sq_rt, sq_bk, sq_ct, sq_ite, of_ok, mSkip_ev, mSetN_ev, mRet_ev, mIf_ev, mFor_ev, mBk_ev, mCt_ev, eB2_ev, eU_ev, eC_ev, aNil_ev, aCons_ev, eCall_ev, eTup_ev, eLst_ev, eSl_ev, oNo_ev, oSo_ev, bOf_ev, bAnd_ev, bOr_ev, bNot_ev, asB_bl, get_mk, set_mk, gV, cI, cS, cB, cN, eF, eFz, iL, iP, iT, i1, i2, iEn, aN, eIsN, eNotN, R.bind_ok, R.map_ok, R.of_some, List.set_cons_zero, List.set_cons_succ, List.getElem?_cons_zero, List.getElem?_cons_succ, List.length_cons, List.length_nil, D.isF, isFL, if_true, if_false, Bool.false_eq_true, Bool.not_true, Bool.not_false, Bool.and_true, Bool.true_and, Bool.and_false, Bool.false_and, bName, bTup, setAll, Nat.zero_add, Nat.reduceAdd, Nat.reduceLeDiff, Nat.reduceEqDiff, List.map_cons, List.map_nil, Option.map_some, Option.bind_some, decide_eq_true h, Bool.false_or]
    rfl
  · simp -implicitDefEqProofs only [mSeq_ev, sq_nx, sq_rt, sq_bk, sq_ct, sq_ite, of_ok, mSkip_ev, mSetN_ev, mRet_ev, mIf_ev, mFor_ev, mBk_ev, mCt_ev, eB2_ev, eU_ev, eC_ev, aNil_ev, aCons_ev, eCall_ev, eTup_ev, eLst_ev, eSl_ev, oNo_ev, oSo_ev, bOf_ev, bAnd_ev, bOr_ev, bNot_ev, asB_bl, get_mk, set_mk, gV, cI, cS, cB, cN, eF, eFz, iL, iP, iT, i1, i2, iEn, aN, eIsN, eNotN, R.bind_ok, R.map_ok, R.of_some, List.set_cons_zero, List.set_cons_succ, List.getElem?_cons_zero, List.getElem?_cons_succ, List.length_cons, List.length_nil, D.isF, isFL, if_true, if_false, Bool.false_eq_true, Bool.not_true, Bool.not_false, Bool.and_true, Bool.true_and, Bool.and_false, Bool.false_and, bName, bTup, setAll, Nat.zero_add, Nat.reduceAdd, Nat.reduceLeDiff, Nat.reduceEqDiff, List.map_cons, List.map_nil, Option.map_some, Option.bind_some, decide_eq_false h, Bool.true_or]

theorem isFL_w (ws : List Str) : isFL (ws.map D.str) = true := isFL_strs ws
theorem wd_app {ws : List Str} {c : Bool} {w : Str} (ρ : S) {i : Nat} {cond : BX} (hc : cond ρ = .ok c) (hs : ρ.sl[i]? = some (some (.obj true .lst (ws.map .str)))) (hw : ws.length < 100) (hset : ρ.set i (.obj true .lst (ws.map .str)) = ρ) :
    mIf cond (mApp i (cS w)) mSkip ρ = .nx (ρ.set i (.obj true .lst ((ws ++ wd c w).map .str))) := by
  rw [mIf_ev, hc, of_ok]
  cases c with
  | true =>
    rw [if_pos rfl, mApp_ev hs (by rw [List.length_map]; omega)]
    show Out.nx _ = _
    unfold wd
    rw [if_pos rfl, List.map_append]
    rfl
  | false =>
    rw [if_neg Bool.false_ne_true]
    unfold wd
    rw [if_neg Bool.false_ne_true, List.append_nil, hset]
    rfl
abbrev sw (sc : List D) (b : Int) (root : D) (P : List (Option Int)) (num : D) (ws : List Str) : S := ⟨[some (.obj false .lst sc), some (.int b), some root, some (.int 24), some (.obj true .lst ((mp P).map .int)), none, some num, some (.obj true .lst (ws.map .str)), none], []⟩
theorem wd_le (c : Bool) (w : Str) : (wd c w).length ≤ 1 := by cases c <;> simp [wd]
theorem words_ok {sc : List D} {b s : Int} {J B : List Int} {P : List (Option Int)} {m : Nat} (hsc : sc.length = 24) (ok : RootOk s J P m B) : F_root_words [.obj false .lst sc, .int b, rootD s J P m B] [] = .ok (.obj true .lst ((words P J B m b).map .str)) := by
  refine fnP_rt (bx' := []) ?_
  show B_root_words ⟨[some (.obj false .lst sc), some (.int b), some (rootD s J P m B), none, none, none, none, none, none], []⟩ = _
  have pl := ok.p2
  have jl := ok.j1
  have bl := ok.b1
  have ml := mp_len P
  have l0 : dLen [.obj false .lst sc] = some (.int 24) := by show some (D.int ((sc.length : Nat) : Int)) = _; rw [hsc]; rfl
  have c1 : C_root_words_1 ⟨[some (.obj false .lst sc), some (.int b), some (rootD s J P m B), some (.int 24), none, none, none, none, none], []⟩ = .ok (.obj true .lst ((mp P).map .int)) := by
    unfold C_root_words_1
    refine lc_mp (P := P) (fun d => ⟨[some (.obj false .lst sc), some (.int b), some (rootD s J P m B), some (.int 24), none, some d, none, none, none], []⟩) ?_ (by omega) (fun d => rfl) fun d => rfl
    simp -implicitDefEqProofs only [mSeq_ev, sq_nx, sq_rt, sq_bk, sq_ct, sq_ite, of_ok, mSkip_ev, mSetN_ev, mRet_ev, mIf_ev, mFor_ev, mBk_ev, mCt_ev, eB2_ev, eU_ev, eC_ev, aNil_ev, aCons_ev, eCall_ev, eTup_ev, eLst_ev, eSl_ev, oNo_ev, oSo_ev, bOf_ev, bAnd_ev, bOr_ev, bNot_ev, asB_bl, get_mk, set_mk, gV, cI, cS, cB, cN, eF, eFz, iL, iP, iT, i1, i2, iEn, aN, eIsN, eNotN, R.bind_ok, R.map_ok, R.of_some, List.set_cons_zero, List.set_cons_succ, List.getElem?_cons_zero, List.getElem?_cons_succ, List.length_cons, List.length_nil, D.isF, isFL, if_true, if_false, Bool.false_eq_true, Bool.not_true, Bool.not_false, Bool.and_true, Bool.true_and, Bool.and_false, Bool.false_and, bName, bTup, setAll, Nat.zero_add, Nat.reduceAdd, Nat.reduceLeDiff, Nat.reduceEqDiff, List.map_cons, List.map_nil, Option.map_some, Option.bind_some, ix5, isFL_o, itT]
  have lj : dList [.tup (J.map .int)] = some (.obj true .lst (J.map .int)) := dList_ok rfl (isFL_ints J)
  have lb : dList [.tup (B.map .int)] = some (.obj true .lst (B.map .int)) := dList_ok rfl (isFL_ints B)
  have a1 : addL (.obj true .lst ((mp P).map .int)) (.obj true .lst (J.map .int)) = some (.obj true .lst ((mp P ++ J).map .int)) := by rw [addL_ok (isFL_ints _) (isFL_ints _) (by rw [List.length_map, List.length_map]; omega), List.map_append]
  have a2 : addL (.obj true .lst ((mp P ++ J).map .int)) (.obj true .lst (B.map .int)) = some (.obj true .lst ((mp P ++ J ++ B).map .int)) := by rw [addL_ok (isFL_ints _) (isFL_ints _) (by rw [List.length_map, List.length_map, List.length_append]; omega), List.map_append (l₁ := mp P ++ J)]
  generalize hN : (mp P ++ J ++ B) = N at a2
  have nl : N.length < 1000 := by rw [← hN, List.length_append, List.length_append]; omega
  have start : B_root_words ⟨[some (.obj false .lst sc), some (.int b), some (rootD s J P m B), none, none, none, none, none, none], []⟩ =
      (mSeq I_root_words_1 (mSeq I_root_words_2 (mSeq I_root_words_3 (mSeq I_root_words_4 (mSeq I_root_words_5 (mSeq I_root_words_6 (mRetV 7))))))) (sw sc b (rootD s J P m B) P (.obj true .lst (N.map .int)) []) := by
    unfold B_root_words
    simp -implicitDefEqProofs only [mSeq_ev, sq_nx, sq_rt, sq_bk, sq_ct, sq_ite, of_ok, mSkip_ev, mSetN_ev, mRet_ev, mIf_ev, mFor_ev, mBk_ev, mCt_ev, eB2_ev, eU_ev, eC_ev, aNil_ev, aCons_ev, eCall_ev, eTup_ev, eLst_ev, eSl_ev, oNo_ev, oSo_ev, bOf_ev, bAnd_ev, bOr_ev, bNot_ev, asB_bl, get_mk, set_mk, gV, cI, cS, cB, cN, eF, eFz, iL, iP, iT, i1, i2, iEn, aN, eIsN, eNotN, R.bind_ok, R.map_ok, R.of_some, List.set_cons_zero, List.set_cons_succ, List.getElem?_cons_zero, List.getElem?_cons_succ, List.length_cons, List.length_nil, D.isF, isFL, if_true, if_false, Bool.false_eq_true, Bool.not_true, Bool.not_false, Bool.and_true, Bool.true_and, Bool.and_false, Bool.false_and, bName, bTup, setAll, Nat.zero_add, Nat.reduceAdd, Nat.reduceLeDiff, Nat.reduceEqDiff, List.map_cons, List.map_nil, Option.map_some, Option.bind_some, l0, c1, ix4, ix7, lj, lb, a1, a2]
    rfl
  rw [start]
  have step : ∀ {f : SM} {c : Bool} {w : Str} {cond : BX} {ws : List Str} {rest : SM}, f = mIf cond (mApp 7 (cS w)) mSkip → cond (sw sc b (rootD s J P m B) P (.obj true .lst (N.map .int)) ws) = .ok c → ws.length < 100 →
      mSeq f rest (sw sc b (rootD s J P m B) P (.obj true .lst (N.map .int)) ws) = rest (sw sc b (rootD s J P m B) P (.obj true .lst (N.map .int)) (ws ++ wd c w)) := by
    intro f c w cond ws rest e hc hw
    subst e
    rw [mSeq_ev, wd_app _ hc rfl hw rfl]
    rfl
  have lw : ∀ (ws : List Str) (c : Bool) (w : Str) (n : Nat), ws.length ≤ n → (ws ++ wd c w).length ≤ n + 1 := fun ws c w n h => by
    rw [List.length_append]
    have := wd_le c w
    omega
  have n1 := lw [] (!((P.length : Int) == 24)) "map length" 0 (Nat.le_refl _)
  have n2 := lw _ (!((m : Int) == 24)) "erases length" _ n1
  have n3 := lw _ (N.any fun x => decide (24 ≤ x)) "block number" _ n2
  have n4 := lw _ (!decide (mp P).Nodup) "map twice" _ n3
  have n5 := lw _ (decide (b ∈ mp P)) "anchor mapped" _ n4
  rw [step (f := I_root_words_1) (c := !((P.length : Int) == 24)) rfl ?_ (by decide), step (f := I_root_words_2) (c := !((m : Int) == 24)) rfl ?_ (by omega), step (f := I_root_words_3) (c := N.any fun x => decide (24 ≤ x)) rfl ?_ (by omega),
    step (f := I_root_words_4) (c := !decide (mp P).Nodup) rfl ?_ (by omega), step (f := I_root_words_5) (c := decide (b ∈ mp P)) rfl ?_ (by omega), step (f := I_root_words_6) (c := jw P J) rfl ?_ (by omega), mRetV_ev rfl]
  · unfold words
    rw [hN, List.nil_append]
  · simp -implicitDefEqProofs only [mSeq_ev, sq_nx, sq_rt, sq_bk, sq_ct, sq_ite, of_ok, mSkip_ev, mSetN_ev, mRet_ev, mIf_ev, mFor_ev, mBk_ev, mCt_ev, eB2_ev, eU_ev, eC_ev, aNil_ev, aCons_ev, eCall_ev, eTup_ev, eLst_ev, eSl_ev, oNo_ev, oSo_ev, bOf_ev, bAnd_ev, bOr_ev, bNot_ev, asB_bl, get_mk, set_mk, gV, cI, cS, cB, cN, eF, eFz, iL, iP, iT, i1, i2, iEn, aN, eIsN, eNotN, R.bind_ok, R.map_ok, R.of_some, List.set_cons_zero, List.set_cons_succ, List.getElem?_cons_zero, List.getElem?_cons_succ, List.length_cons, List.length_nil, D.isF, isFL, if_true, if_false, Bool.false_eq_true, Bool.not_true, Bool.not_false, Bool.and_true, Bool.true_and, Bool.and_false, Bool.false_and, bName, bTup, setAll, Nat.zero_add, Nat.reduceAdd, Nat.reduceLeDiff, Nat.reduceEqDiff, List.map_cons, List.map_nil, Option.map_some, Option.bind_some, journal_ok ok, root_isF]
  · have hi : dIn false (.int b) (.obj true .lst ((mp P).map .int)) = some (.bl (decide (b ∈ mp P))) := dIn_int (l := mp P) rfl
    simp -implicitDefEqProofs only [mSeq_ev, sq_nx, sq_rt, sq_bk, sq_ct, sq_ite, of_ok, mSkip_ev, mSetN_ev, mRet_ev, mIf_ev, mFor_ev, mBk_ev, mCt_ev, eB2_ev, eU_ev, eC_ev, aNil_ev, aCons_ev, eCall_ev, eTup_ev, eLst_ev, eSl_ev, oNo_ev, oSo_ev, bOf_ev, bAnd_ev, bOr_ev, bNot_ev, asB_bl, get_mk, set_mk, gV, cI, cS, cB, cN, eF, eFz, iL, iP, iT, i1, i2, iEn, aN, eIsN, eNotN, R.bind_ok, R.map_ok, R.of_some, List.set_cons_zero, List.set_cons_succ, List.getElem?_cons_zero, List.getElem?_cons_succ, List.length_cons, List.length_nil, D.isF, isFL, if_true, if_false, Bool.false_eq_true, Bool.not_true, Bool.not_false, Bool.and_true, Bool.true_and, Bool.and_false, Bool.false_and, bName, bTup, setAll, Nat.zero_add, Nat.reduceAdd, Nat.reduceLeDiff, Nat.reduceEqDiff, List.map_cons, List.map_nil, Option.map_some, Option.bind_some, hi]
  · have d1 : dLenSet (.obj true .lst ((mp P).map .int)) = some (.int (nub (mp P)).length) := dLenSet_ok rfl (by omega)
    simp -implicitDefEqProofs only [mSeq_ev, sq_nx, sq_rt, sq_bk, sq_ct, sq_ite, of_ok, mSkip_ev, mSetN_ev, mRet_ev, mIf_ev, mFor_ev, mBk_ev, mCt_ev, eB2_ev, eU_ev, eC_ev, aNil_ev, aCons_ev, eCall_ev, eTup_ev, eLst_ev, eSl_ev, oNo_ev, oSo_ev, bOf_ev, bAnd_ev, bOr_ev, bNot_ev, asB_bl, get_mk, set_mk, gV, cI, cS, cB, cN, eF, eFz, iL, iP, iT, i1, i2, iEn, aN, eIsN, eNotN, R.bind_ok, R.map_ok, R.of_some, List.set_cons_zero, List.set_cons_succ, List.getElem?_cons_zero, List.getElem?_cons_succ, List.length_cons, List.length_nil, D.isF, isFL, if_true, if_false, Bool.false_eq_true, Bool.not_true, Bool.not_false, Bool.and_true, Bool.true_and, Bool.and_false, Bool.false_and, bName, bTup, setAll, Nat.zero_add, Nat.reduceAdd, Nat.reduceLeDiff, Nat.reduceEqDiff, List.map_cons, List.map_nil, Option.map_some, Option.bind_some, d1, dLen_lst, List.length_map, dNe_int, nub_ne]
  · have c2 : ∀ ws : List Str, C_root_words_2 (sw sc b (rootD s J P m B) P (.obj true .lst (N.map .int)) ws) = .ok (.obj true .lst ((N.map fun x => decide (24 ≤ x)).map .bl)) := fun ws => by
      let un : D → Int := fun x => match x with | .int j => j | _ => 0
      unfold C_root_words_2
      rw [eLc_ev (xs := N.map .int) (fun d => ⟨[some (.obj false .lst sc), some (.int b), some (rootD s J P m B), some (.int 24), some (.obj true .lst ((mp P).map .int)), none, some (.obj true .lst (N.map .int)), some (.obj true .lst (ws.map .str)), some d], []⟩) (fun _ => true) (fun d => .bl (decide (24 ≤ un d))) ?_ (by rw [List.length_map]; omega) ?_]
      · have e : (N.map D.int).filter (fun _ => true) = N.map D.int := List.filter_eq_self.mpr fun _ _ => rfl
        rw [e, List.map_map, List.map_map]
        rfl
      · simp -implicitDefEqProofs only [mSeq_ev, sq_nx, sq_rt, sq_bk, sq_ct, sq_ite, of_ok, mSkip_ev, mSetN_ev, mRet_ev, mIf_ev, mFor_ev, mBk_ev, mCt_ev, eB2_ev, eU_ev, eC_ev, aNil_ev, aCons_ev, eCall_ev, eTup_ev, eLst_ev, eSl_ev, oNo_ev, oSo_ev, bOf_ev, bAnd_ev, bOr_ev, bNot_ev, asB_bl, get_mk, set_mk, gV, cI, cS, cB, cN, eF, eFz, iL, iP, iT, i1, i2, iEn, aN, eIsN, eNotN, R.bind_ok, R.map_ok, R.of_some, List.set_cons_zero, List.set_cons_succ, List.getElem?_cons_zero, List.getElem?_cons_succ, List.length_cons, List.length_nil, D.isF, isFL, if_true, if_false, Bool.false_eq_true, Bool.not_true, Bool.not_false, Bool.and_true, Bool.true_and, Bool.and_false, Bool.false_and, bName, bTup, setAll, Nat.zero_add, Nat.reduceAdd, Nat.reduceLeDiff, Nat.reduceEqDiff, List.map_cons, List.map_nil, Option.map_some, Option.bind_some, itP, isFL_ints]
      · intro d hd
        obtain ⟨x, hx, rfl⟩ := List.mem_map.mp hd
        refine ⟨rfl, rfl, fun _ => ?_⟩
        simp -implicitDefEqProofs only [mSeq_ev, sq_nx, sq_rt, sq_bk, sq_ct, sq_ite, of_ok, mSkip_ev, mSetN_ev, mRet_ev, mIf_ev, mFor_ev, mBk_ev, mCt_ev, eB2_ev, eU_ev, eC_ev, aNil_ev, aCons_ev, eCall_ev, eTup_ev, eLst_ev, eSl_ev, oNo_ev, oSo_ev, bOf_ev, bAnd_ev, bOr_ev, bNot_ev, asB_bl, get_mk, set_mk, gV, cI, cS, cB, cN, eF, eFz, iL, iP, iT, i1, i2, iEn, aN, eIsN, eNotN, R.bind_ok, R.map_ok, R.of_some, List.set_cons_zero, List.set_cons_succ, List.getElem?_cons_zero, List.getElem?_cons_succ, List.length_cons, List.length_nil, D.isF, isFL, if_true, if_false, Bool.false_eq_true, Bool.not_true, Bool.not_false, Bool.and_true, Bool.true_and, Bool.and_false, Bool.false_and, bName, bTup, setAll, Nat.zero_add, Nat.reduceAdd, Nat.reduceLeDiff, Nat.reduceEqDiff, List.map_cons, List.map_nil, Option.map_some, Option.bind_some, dGe_int]
        rfl
    simp -implicitDefEqProofs only [mSeq_ev, sq_nx, sq_rt, sq_bk, sq_ct, sq_ite, of_ok, mSkip_ev, mSetN_ev, mRet_ev, mIf_ev, mFor_ev, mBk_ev, mCt_ev, eB2_ev, eU_ev, eC_ev, aNil_ev, aCons_ev, eCall_ev, eTup_ev, eLst_ev, eSl_ev, oNo_ev, oSo_ev, bOf_ev, bAnd_ev, bOr_ev, bNot_ev, asB_bl, get_mk, set_mk, gV, cI, cS, cB, cN, eF, eFz, iL, iP, iT, i1, i2, iEn, aN, eIsN, eNotN, R.bind_ok, R.map_ok, R.of_some, List.set_cons_zero, List.set_cons_succ, List.getElem?_cons_zero, List.getElem?_cons_succ, List.length_cons, List.length_nil, D.isF, isFL, if_true, if_false, Bool.false_eq_true, Bool.not_true, Bool.not_false, Bool.and_true, Bool.true_and, Bool.and_false, Bool.false_and, bName, bTup, setAll, Nat.zero_add, Nat.reduceAdd, Nat.reduceLeDiff, Nat.reduceEqDiff, List.map_cons, List.map_nil, Option.map_some, Option.bind_some, c2, dAny_ok, List.any_map]
    rfl
  · simp -implicitDefEqProofs only [mSeq_ev, sq_nx, sq_rt, sq_bk, sq_ct, sq_ite, of_ok, mSkip_ev, mSetN_ev, mRet_ev, mIf_ev, mFor_ev, mBk_ev, mCt_ev, eB2_ev, eU_ev, eC_ev, aNil_ev, aCons_ev, eCall_ev, eTup_ev, eLst_ev, eSl_ev, oNo_ev, oSo_ev, bOf_ev, bAnd_ev, bOr_ev, bNot_ev, asB_bl, get_mk, set_mk, gV, cI, cS, cB, cN, eF, eFz, iL, iP, iT, i1, i2, iEn, aN, eIsN, eNotN, R.bind_ok, R.map_ok, R.of_some, List.set_cons_zero, List.set_cons_succ, List.getElem?_cons_zero, List.getElem?_cons_succ, List.length_cons, List.length_nil, D.isF, isFL, if_true, if_false, Bool.false_eq_true, Bool.not_true, Bool.not_false, Bool.and_true, Bool.true_and, Bool.and_false, Bool.false_and, bName, bTup, setAll, Nat.zero_add, Nat.reduceAdd, Nat.reduceLeDiff, Nat.reduceEqDiff, List.map_cons, List.map_nil, Option.map_some, Option.bind_some, ix6, dLen_tup, List.length_replicate, dNe_int]
  · simp -implicitDefEqProofs only [mSeq_ev, sq_nx, sq_rt, sq_bk, sq_ct, sq_ite, of_ok, mSkip_ev, mSetN_ev, mRet_ev, mIf_ev, mFor_ev, mBk_ev, mCt_ev, eB2_ev, eU_ev, eC_ev, aNil_ev, aCons_ev, eCall_ev, eTup_ev, eLst_ev, eSl_ev, oNo_ev, oSo_ev, bOf_ev, bAnd_ev, bOr_ev, bNot_ev, asB_bl, get_mk, set_mk, gV, cI, cS, cB, cN, eF, eFz, iL, iP, iT, i1, i2, iEn, aN, eIsN, eNotN, R.bind_ok, R.map_ok, R.of_some, List.set_cons_zero, List.set_cons_succ, List.getElem?_cons_zero, List.getElem?_cons_succ, List.length_cons, List.length_nil, D.isF, isFL, if_true, if_false, Bool.false_eq_true, Bool.not_true, Bool.not_false, Bool.and_true, Bool.true_and, Bool.and_false, Bool.false_and, bName, bTup, setAll, Nat.zero_add, Nat.reduceAdd, Nat.reduceLeDiff, Nat.reduceEqDiff, List.map_cons, List.map_nil, Option.map_some, Option.bind_some, ix5, dLen_tup, len_o, dNe_int]
end K81

set_option Elab.async false
set_option linter.all false
set_option maxRecDepth 100000
set_option maxHeartbeats 4000000
namespace K81
open PySem L2 Tm
/-! ### the law's words -/
theorem wd_or (w0 : List Str) (a c : Bool) (w : Str) : (w0 ++ wd c w) ++ wd (a && !c) w = w0 ++ wd (c || a) w := by
  cases a <;> cases c <;> simp [wd]
theorem wd_mem {w0 : List Str} {c : Bool} {w : Str} (h : w ∉ w0) : decide (w ∈ w0 ++ wd c w) = c := by
  cases c with
  | true => exact decide_eq_true (List.mem_append_right _ (by simp [wd]))
  | false => exact decide_eq_false (by simpa [wd] using h)
theorem wd_no {c : Bool} {v w : Str} (h : w ≠ v) : w ∉ wd c v := by
  cases c <;> simp [wd, h]
theorem take_s {α : Type} {l : List α} {i : Nat} {x : α} (h : l[i]? = some x) : l.take (i + 1) = l.take i ++ [x] := by
  rw [List.take_add_one, h]
  rfl
theorem nd_step {l : List Int} {i : Nat} {x : Int} (h : l[i]? = some x) : decide (l.take (i + 1)).Nodup = (decide (l.take i).Nodup && !decide (x ∈ l.take i)) := by
  rw [take_s h]
  by_cases a : (l.take i).Nodup
  · by_cases b : x ∈ l.take i
    · rw [decide_eq_true a, decide_eq_true b]
      refine decide_eq_false fun n => ?_
      rw [List.nodup_append] at n
      exact n.2.2 x b x List.mem_cons_self rfl
    · rw [decide_eq_true a, decide_eq_false b]
      refine decide_eq_true ?_
      rw [List.nodup_append]
      refine ⟨a, List.pairwise_singleton _ _, fun y hy z hz => ?_⟩
      rw [List.mem_singleton.mp hz]
      exact fun e => b (e ▸ hy)
  · rw [decide_eq_false a]
    refine decide_eq_false fun n => a ?_
    rw [List.nodup_append] at n
    exact n.1
theorem sl_to {o : Bool} {l : List Int} {i : Nat} (h : i ≤ l.length) : slL (.obj o .lst (l.map .int)) none (some (i : Int)) = some (.obj true .lst ((l.take i).map .int)) := by
  have e : HT.sIx (l.map D.int).length (l.map D.int).length (some (i : Int)) = i := by
    rw [List.length_map, HT.sIx_nat]
    exact Nat.min_eq_left h
  simp -implicitDefEqProofs only [slL, isFL_ints, if_true, HT.sIx_none, e, List.drop_zero, Nat.sub_zero, List.map_take]
theorem slt_to {l : List Int} {i : Nat} (h : i ≤ l.length) : slT (.tup (l.map .int)) none (some (i : Int)) = some (.tup ((l.take i).map .int)) := by
  have e : HT.sIx (l.map D.int).length (l.map D.int).length (some (i : Int)) = i := by
    rw [List.length_map, HT.sIx_nat]
    exact Nat.min_eq_left h
  simp -implicitDefEqProofs only [slT, HT.sIx_none, e, List.drop_zero, Nat.sub_zero, List.map_take]
theorem at_ints {l : List Int} {i : Nat} {x : Int} (h : l[i]? = some x) : atI (l.map D.int) (i : Int) = some (.int x) := by
  have hi := (List.getElem?_eq_some_iff.mp h).1
  rw [atI_at (by omega) (by rw [List.length_map]; omega), Int.toNat_natCast, List.getElem?_map, h]
  rfl
theorem frz_obj {o : Bool} {t : Tg} {xs : List D} : D.frz (.obj o t xs) = .obj false t (frzL xs) := rfl
abbrev lw (b : Int) (root : D) (P : List (Option Int)) (ws : List Str) (k7 k8 : Option D) : S := ⟨[some root, some (.int b), some (.tup (P.map oD)), some (.obj true .lst ((mp P).map .int)), none, some (.obj true .lst (ws.map .str)), none, k7, k8], []⟩
section
variable {b s : Int} {J B : List Int} {P : List (Option Int)} {m : Nat}
theorem loop1 {w0 : List Str} (hw : ("map twice" : Str) ∉ w0) (hl : w0.length < 90) : ∃ k7, forL (bName 7) L__law_words_1 (rngL 0 (mp P).length) (lw b (rootD s J P m B) P w0 none none) = .nx (lw b (rootD s J P m B) P (w0 ++ wd (!decide (mp P).Nodup) "map twice") k7 none) := by
  obtain ⟨ρ', e, k7, rfl⟩ := forL_inv (bt := bName 7) (body := L__law_words_1) (fun i ρ => ∃ k7, ρ = lw b (rootD s J P m B) P (w0 ++ wd (!decide ((mp P).take i).Nodup) "map twice") k7 none) (xs := rngL 0 (mp P).length) (ρ := lw b (rootD s J P m B) P w0 none none) (by
    rintro i x ρ hx ⟨k7, rfl⟩
    obtain ⟨rfl, hi⟩ := rng_get hx
    rw [Int.zero_add]
    have hg := List.getElem?_eq_getElem hi
    generalize (mp P)[i] = y at hg
    generalize hc : (!decide ((mp P).take i).Nodup) = c
    refine ⟨_, _, rfl, .inl ?_, some (.int i), rfl⟩
    have e2 : (!decide ((mp P).take (i + 1)).Nodup) = (c || decide (y ∈ (mp P).take i)) := by
      rw [nd_step hg, ← hc]
      cases decide ((mp P).take i).Nodup <;> cases decide (y ∈ (mp P).take i) <;> rfl
    rw [e2, ← wd_or]
    unfold L__law_words_1 I__law_words_4
    have cnd : bAnd (bOf (eB2 (dIn false) (eB2 dIx (gV 3) (gV 7)) (eSl slL (gV 3) oNo (oSo (gV 7))))) (bOf (eB2 (dIn true) (cS "map twice") (gV 5))) (lw b (rootD s J P m B) P (w0 ++ wd c "map twice") (some (.int i)) none) = .ok (decide (y ∈ (mp P).take i) && !c) := by
      have h1 : dIn false (.int y) (.obj true .lst (((mp P).take i).map .int)) = some (.bl (decide (y ∈ (mp P).take i))) := dIn_int (l := (mp P).take i) rfl
      have h2 : dIn true (.str "map twice") (.obj true .lst ((w0 ++ wd c "map twice").map .str)) = some (.bl (!c)) := by
        rw [dIn_str (l := w0 ++ wd c "map twice") rfl, wd_mem hw]
        rfl
      simp -implicitDefEqProofs only [mSeq_ev, sq_nx, sq_rt, sq_bk, sq_ct, sq_ite, of_ok, mSkip_ev, mSetN_ev, mRet_ev, mIf_ev, mFor_ev, mBk_ev, mCt_ev, eB2_ev, eU_ev, eC_ev, aNil_ev, aCons_ev, eCall_ev, eTup_ev, eLst_ev, eSl_ev, oNo_ev, oSo_ev, bOf_ev, bAnd_ev, bOr_ev, bNot_ev, asB_bl, get_mk, set_mk, gV, cI, cS, cB, cN, eF, eFz, iL, iP, iT, i1, i2, iEn, aN, eIsN, eNotN, R.bind_ok, R.map_ok, R.of_some, List.set_cons_zero, List.set_cons_succ, List.getElem?_cons_zero, List.getElem?_cons_succ, List.length_cons, List.length_nil, D.isF, isFL, if_true, if_false, Bool.false_eq_true, Bool.not_true, Bool.not_false, Bool.and_true, Bool.true_and, Bool.and_false, Bool.false_and, bName, bTup, setAll, Nat.zero_add, Nat.reduceAdd, Nat.reduceLeDiff, Nat.reduceEqDiff, List.map_cons, List.map_nil, Option.map_some, Option.bind_some, dIx_lst, at_ints hg, sl_to (Nat.le_of_lt hi), h1, h2]
      cases decide (y ∈ (mp P).take i) <;> rfl
    have q := wd_le c "map twice"
    exact wd_app _ cnd rfl (by rw [List.length_append]; omega) rfl) ⟨none, by
      have e0 : (!decide ((mp P).take 0).Nodup) = false := by simp
      rw [e0]
      show _ = lw b (rootD s J P m B) P (w0 ++ []) none none
      rw [List.append_nil]⟩
  refine ⟨k7, ?_⟩
  rw [rng_len, List.take_length] at e
  exact e
theorem loop2 {w0 : List Str} {k7 : Option D} (ok : RootOk s J P m B) (hw : ("journal" : Str) ∉ w0) (hl : w0.length < 90) : ∃ k7' k8', forL (bName 7) L__law_words_2 (rngL 0 J.length) (lw b (rootD s J P m B) P w0 k7 none) = .nx (lw b (rootD s J P m B) P (w0 ++ wd (jw P J) "journal") k7' k8') := by
  obtain ⟨ρ', e, k7', k8', rfl⟩ := forL_inv (bt := bName 7) (body := L__law_words_2) (fun i ρ => ∃ k7 k8, ρ = lw b (rootD s J P m B) P (w0 ++ wd (jw P (J.take i)) "journal") k7 k8) (xs := rngL 0 J.length) (ρ := lw b (rootD s J P m B) P w0 k7 none) (by
    rintro i x ρ hx ⟨k7, k8, rfl⟩
    obtain ⟨rfl, hi⟩ := rng_get hx
    rw [Int.zero_add]
    have hg := List.getElem?_eq_getElem hi
    obtain ⟨y0, y1⟩ := ok.j2 J[i] (List.getElem_mem hi)
    generalize J[i] = y at hg y0 y1
    have e2 : jw P (J.take (i + 1)) = (jw P (J.take i) || (decide (y ∈ J.take i) || jb P y)) := by
      unfold jw
      rw [nd_step hg, take_s hg, List.any_append]
      have e3 : [y].any (jb P) = jb P y := by simp
      rw [e3]
      cases decide (J.take i).Nodup <;> cases decide (y ∈ J.take i) <;> cases (J.take i).any (jb P) <;> cases jb P y <;> rfl
    generalize hc : jw P (J.take i) = c at e2
    refine ⟨_, lw b (rootD s J P m B) P (w0 ++ wd (jw P (J.take (i + 1))) "journal") (some (.int i)) (some (.int y)), rfl, .inl ?_, _, _, rfl⟩
    rw [e2]
    have h2 : dIn true (.str "journal") (.obj true .lst ((w0 ++ wd c "journal").map .str)) = some (.bl (!c)) := by
      rw [dIn_str (l := w0 ++ wd c "journal") rfl, wd_mem hw]
      rfl
    have cnd : bOr (bOf (eB2 (dIn false) (gV 8) (eSl slT (eB2 dIx (gV 0) (cI 4)) oNo (oSo (gV 7))))) (bOr (bOf (eB2 dGe (gV 8) (eC dLen (aCons (gV 2) aN)))) (bOf (eIsN (eB2 dIx (gV 2) (gV 8))))) (lw b (rootD s J P m B) P (w0 ++ wd c "journal") (some (.int i)) (some (.int y))) = .ok (decide (y ∈ J.take i) || jb P y) := by
      have h1 : dIn false (.int y) (.tup ((J.take i).map .int)) = some (.bl (decide (y ∈ J.take i))) := dIn_int (l := J.take i) rfl
      simp -implicitDefEqProofs only [mSeq_ev, sq_nx, sq_rt, sq_bk, sq_ct, sq_ite, of_ok, mSkip_ev, mSetN_ev, mRet_ev, mIf_ev, mFor_ev, mBk_ev, mCt_ev, eB2_ev, eU_ev, eC_ev, aNil_ev, aCons_ev, eCall_ev, eTup_ev, eLst_ev, eSl_ev, oNo_ev, oSo_ev, bOf_ev, bAnd_ev, bOr_ev, bNot_ev, asB_bl, get_mk, set_mk, gV, cI, cS, cB, cN, eF, eFz, iL, iP, iT, i1, i2, iEn, aN, eIsN, eNotN, R.bind_ok, R.map_ok, R.of_some, List.set_cons_zero, List.set_cons_succ, List.getElem?_cons_zero, List.getElem?_cons_succ, List.length_cons, List.length_nil, D.isF, isFL, if_true, if_false, Bool.false_eq_true, Bool.not_true, Bool.not_false, Bool.and_true, Bool.true_and, Bool.and_false, Bool.false_and, bName, bTup, setAll, Nat.zero_add, Nat.reduceAdd, Nat.reduceLeDiff, Nat.reduceEqDiff, List.map_cons, List.map_nil, Option.map_some, Option.bind_some, ix4, slt_to (Nat.le_of_lt hi), h1, dLen_tup, len_o, dGe_int]
      cases decide (y ∈ J.take i) with
      | true => rfl
      | false =>
        unfold jb
        by_cases cc : (P.length : Int) ≤ y
        · simp -implicitDefEqProofs only [mSeq_ev, sq_nx, sq_rt, sq_bk, sq_ct, sq_ite, of_ok, mSkip_ev, mSetN_ev, mRet_ev, mIf_ev, mFor_ev, mBk_ev, mCt_ev, eB2_ev, eU_ev, eC_ev, aNil_ev, aCons_ev, eCall_ev, eTup_ev, eLst_ev, eSl_ev, oNo_ev, oSo_ev, bOf_ev, bAnd_ev, bOr_ev, bNot_ev, asB_bl, get_mk, set_mk, gV, cI, cS, cB, cN, eF, eFz, iL, iP, iT, i1, i2, iEn, aN, eIsN, eNotN, R.bind_ok, R.map_ok, R.of_some, List.set_cons_zero, List.set_cons_succ, List.getElem?_cons_zero, List.getElem?_cons_succ, List.length_cons, List.length_nil, D.isF, isFL, if_true, if_false, Bool.false_eq_true, Bool.not_true, Bool.not_false, Bool.and_true, Bool.true_and, Bool.and_false, Bool.false_and, bName, bTup, setAll, Nat.zero_add, Nat.reduceAdd, Nat.reduceLeDiff, Nat.reduceEqDiff, List.map_cons, List.map_nil, Option.map_some, Option.bind_some, decide_eq_true cc, Bool.true_or, Bool.false_or]
        · simp -implicitDefEqProofs only [mSeq_ev, sq_nx, sq_rt, sq_bk, sq_ct, sq_ite, of_ok, mSkip_ev, mSetN_ev, mRet_ev, mIf_ev, mFor_ev, mBk_ev, mCt_ev, eB2_ev, eU_ev, eC_ev, aNil_ev, aCons_ev, eCall_ev, eTup_ev, eLst_ev, eSl_ev, oNo_ev, oSo_ev, bOf_ev, bAnd_ev, bOr_ev, bNot_ev, asB_bl, get_mk, set_mk, gV, cI, cS, cB, cN, eF, eFz, iL, iP, iT, i1, i2, iEn, aN, eIsN, eNotN, R.bind_ok, R.map_ok, R.of_some, List.set_cons_zero, List.set_cons_succ, List.getElem?_cons_zero, List.getElem?_cons_succ, List.length_cons, List.length_nil, D.isF, isFL, if_true, if_false, Bool.false_eq_true, Bool.not_true, Bool.not_false, Bool.and_true, Bool.true_and, Bool.and_false, Bool.false_and, bName, bTup, setAll, Nat.zero_add, Nat.reduceAdd, Nat.reduceLeDiff, Nat.reduceEqDiff, List.map_cons, List.map_nil, Option.map_some, Option.bind_some, decide_eq_false cc, Bool.false_or, dIx_tup, atP y0 cc, isNon_o]
    have q := wd_le c "journal"
    have app := wd_app (w := "journal") (ws := w0 ++ wd c "journal") (lw b (rootD s J P m B) P (w0 ++ wd c "journal") (some (.int i)) (some (.int y))) (i := 5) cnd rfl (by rw [List.length_append]; omega) rfl
    unfold L__law_words_2
    simp -implicitDefEqProofs only [mSeq_ev, sq_nx, sq_rt, sq_bk, sq_ct, sq_ite, of_ok, mSkip_ev, mSetN_ev, mRet_ev, mIf_ev, mFor_ev, mBk_ev, mCt_ev, eB2_ev, eU_ev, eC_ev, aNil_ev, aCons_ev, eCall_ev, eTup_ev, eLst_ev, eSl_ev, oNo_ev, oSo_ev, bOf_ev, bAnd_ev, bOr_ev, bNot_ev, asB_bl, get_mk, set_mk, gV, cI, cS, cB, cN, eF, eFz, iL, iP, iT, i1, i2, iEn, aN, eIsN, eNotN, R.bind_ok, R.map_ok, R.of_some, List.set_cons_zero, List.set_cons_succ, List.getElem?_cons_zero, List.getElem?_cons_succ, List.length_cons, List.length_nil, D.isF, isFL, if_true, if_false, Bool.false_eq_true, Bool.not_true, Bool.not_false, Bool.and_true, Bool.true_and, Bool.and_false, Bool.false_and, bName, bTup, setAll, Nat.zero_add, Nat.reduceAdd, Nat.reduceLeDiff, Nat.reduceEqDiff, List.map_cons, List.map_nil, Option.map_some, Option.bind_some, ix4, dIx_tup, at_ints hg]
    unfold I__law_words_7
    simp -implicitDefEqProofs only [mSeq_ev, sq_nx, sq_rt, sq_bk, sq_ct, sq_ite, of_ok, mSkip_ev, mSetN_ev, mRet_ev, mIf_ev, mFor_ev, mBk_ev, mCt_ev, eB2_ev, eU_ev, eC_ev, aNil_ev, aCons_ev, eCall_ev, eTup_ev, eLst_ev, eSl_ev, oNo_ev, oSo_ev, bOf_ev, bAnd_ev, bOr_ev, bNot_ev, asB_bl, get_mk, set_mk, gV, cI, cS, cB, cN, eF, eFz, iL, iP, iT, i1, i2, iEn, aN, eIsN, eNotN, R.bind_ok, R.map_ok, R.of_some, List.set_cons_zero, List.set_cons_succ, List.getElem?_cons_zero, List.getElem?_cons_succ, List.length_cons, List.length_nil, D.isF, isFL, if_true, if_false, Bool.false_eq_true, Bool.not_true, Bool.not_false, Bool.and_true, Bool.true_and, Bool.and_false, Bool.false_and, bName, bTup, setAll, Nat.zero_add, Nat.reduceAdd, Nat.reduceLeDiff, Nat.reduceEqDiff, List.map_cons, List.map_nil, Option.map_some, Option.bind_some, h2]
    cases c with
    | true =>
      simp -implicitDefEqProofs only [mSeq_ev, sq_nx, sq_rt, sq_bk, sq_ct, sq_ite, of_ok, mSkip_ev, mSetN_ev, mRet_ev, mIf_ev, mFor_ev, mBk_ev, mCt_ev, eB2_ev, eU_ev, eC_ev, aNil_ev, aCons_ev, eCall_ev, eTup_ev, eLst_ev, eSl_ev, oNo_ev, oSo_ev, bOf_ev, bAnd_ev, bOr_ev, bNot_ev, asB_bl, get_mk, set_mk, gV, cI, cS, cB, cN, eF, eFz, iL, iP, iT, i1, i2, iEn, aN, eIsN, eNotN, R.bind_ok, R.map_ok, R.of_some, List.set_cons_zero, List.set_cons_succ, List.getElem?_cons_zero, List.getElem?_cons_succ, List.length_cons, List.length_nil, D.isF, isFL, if_true, if_false, Bool.false_eq_true, Bool.not_true, Bool.not_false, Bool.and_true, Bool.true_and, Bool.and_false, Bool.false_and, bName, bTup, setAll, Nat.zero_add, Nat.reduceAdd, Nat.reduceLeDiff, Nat.reduceEqDiff, List.map_cons, List.map_nil, Option.map_some, Option.bind_some]
      rw [Bool.true_or]
    | false =>
      simp -implicitDefEqProofs only [mSeq_ev, sq_nx, sq_rt, sq_bk, sq_ct, sq_ite, of_ok, mSkip_ev, mSetN_ev, mRet_ev, mIf_ev, mFor_ev, mBk_ev, mCt_ev, eB2_ev, eU_ev, eC_ev, aNil_ev, aCons_ev, eCall_ev, eTup_ev, eLst_ev, eSl_ev, oNo_ev, oSo_ev, bOf_ev, bAnd_ev, bOr_ev, bNot_ev, asB_bl, get_mk, set_mk, gV, cI, cS, cB, cN, eF, eFz, iL, iP, iT, i1, i2, iEn, aN, eIsN, eNotN, R.bind_ok, R.map_ok, R.of_some, List.set_cons_zero, List.set_cons_succ, List.getElem?_cons_zero, List.getElem?_cons_succ, List.length_cons, List.length_nil, D.isF, isFL, if_true, if_false, Bool.false_eq_true, Bool.not_true, Bool.not_false, Bool.and_true, Bool.true_and, Bool.and_false, Bool.false_and, bName, bTup, setAll, Nat.zero_add, Nat.reduceAdd, Nat.reduceLeDiff, Nat.reduceEqDiff, List.map_cons, List.map_nil, Option.map_some, Option.bind_some]
      unfold I__law_words_6
      rw [app]
      rw [Bool.false_or]
      have e0 : w0 ++ wd false "journal" = w0 := List.append_nil w0
      rw [e0]
      rfl) ⟨k7, none, by
      have e0 : jw P (J.take 0) = false := by simp [jw]
      rw [e0]
      show _ = lw b (rootD s J P m B) P (w0 ++ []) k7 none
      rw [List.append_nil]⟩
  refine ⟨k7', k8', ?_⟩
  rw [rng_len, List.take_length] at e
  exact e
theorem filt_any : ∀ N : List Int, decide ((0 : Int) < ((N.filter fun x => decide (24 ≤ x)).length : Int)) = N.any fun x => decide (24 ≤ x)
  | [] => rfl
  | x :: r => by
    have ih := filt_any r
    rw [List.any_cons]
    by_cases c : 24 ≤ x
    · rw [List.filter_cons_of_pos (by simpa using c), decide_eq_true c, Bool.true_or]
      exact decide_eq_true (by rw [List.length_cons]; omega)
    · rw [List.filter_cons_of_neg (by simpa using c), decide_eq_false c, Bool.false_or, ih]
theorem lwords_ok (ok : RootOk s J P m B) : F__law_words [rootD s J P m B, .int b] [] = .ok (.obj true .lst ((words P J B m b).map .str)) := by
  refine fnP_rt (bx' := []) ?_
  show B__law_words ⟨[some (rootD s J P m B), some (.int b), none, none, none, none, none, none, none], []⟩ = _
  have pl := ok.p2
  have jl := ok.j1
  have bl := ok.b1
  have ml := mp_len P
  have c1 : C__law_words_1 ⟨[some (rootD s J P m B), some (.int b), some (.tup (P.map oD)), none, none, none, none, none, none], []⟩ = .ok (.obj true .lst ((mp P).map .int)) := by
    unfold C__law_words_1
    refine lc_mp (P := P) (fun d => ⟨[some (rootD s J P m B), some (.int b), some (.tup (P.map oD)), none, some d, none, none, none, none], []⟩) ?_ (by omega) (fun d => rfl) fun d => rfl
    simp -implicitDefEqProofs only [mSeq_ev, sq_nx, sq_rt, sq_bk, sq_ct, sq_ite, of_ok, mSkip_ev, mSetN_ev, mRet_ev, mIf_ev, mFor_ev, mBk_ev, mCt_ev, eB2_ev, eU_ev, eC_ev, aNil_ev, aCons_ev, eCall_ev, eTup_ev, eLst_ev, eSl_ev, oNo_ev, oSo_ev, bOf_ev, bAnd_ev, bOr_ev, bNot_ev, asB_bl, get_mk, set_mk, gV, cI, cS, cB, cN, eF, eFz, iL, iP, iT, i1, i2, iEn, aN, eIsN, eNotN, R.bind_ok, R.map_ok, R.of_some, List.set_cons_zero, List.set_cons_succ, List.getElem?_cons_zero, List.getElem?_cons_succ, List.length_cons, List.length_nil, D.isF, isFL, if_true, if_false, Bool.false_eq_true, Bool.not_true, Bool.not_false, Bool.and_true, Bool.true_and, Bool.and_false, Bool.false_and, bName, bTup, setAll, Nat.zero_add, Nat.reduceAdd, Nat.reduceLeDiff, Nat.reduceEqDiff, List.map_cons, List.map_nil, Option.map_some, Option.bind_some, isFL_o, itT]
  have lj : dList [.tup (J.map .int)] = some (.obj true .lst (J.map .int)) := dList_ok rfl (isFL_ints J)
  have lb : dList [.tup (B.map .int)] = some (.obj true .lst (B.map .int)) := dList_ok rfl (isFL_ints B)
  have a1 : addL (.obj true .lst ((mp P).map .int)) (.obj true .lst (J.map .int)) = some (.obj true .lst ((mp P ++ J).map .int)) := by rw [addL_ok (isFL_ints _) (isFL_ints _) (by rw [List.length_map, List.length_map]; omega), List.map_append]
  have a2 : addL (.obj true .lst ((mp P ++ J).map .int)) (.obj true .lst (B.map .int)) = some (.obj true .lst ((mp P ++ J ++ B).map .int)) := by rw [addL_ok (isFL_ints _) (isFL_ints _) (by rw [List.length_map, List.length_map, List.length_append]; omega), List.map_append (l₁ := mp P ++ J)]
  generalize hN : (mp P ++ J ++ B) = N at a2
  have nl : N.length < 1000 := by rw [← hN, List.length_append, List.length_append]; omega
  have fN : frzL (N.map .int) = N.map D.int := frzL_id (isFL_ints N)
  have c2 : ∀ ws : List Str, C__law_words_2 (lw b (rootD s J P m B) P ws none none) = .ok (.obj true .lst ((N.filter fun x => decide (24 ≤ x)).map .int)) := fun ws => by
    let un : D → Int := fun x => match x with | .int j => j | _ => 0
    unfold C__law_words_2
    rw [eLc_ev (xs := N.map .int) (fun d => ⟨[some (rootD s J P m B), some (.int b), some (.tup (P.map oD)), some (.obj true .lst ((mp P).map .int)), none, some (.obj true .lst (ws.map .str)), some d, none, none], []⟩) (fun d => decide (24 ≤ un d)) id ?_ (by rw [List.length_map]; omega) ?_]
    · rw [List.map_id, List.filter_map]
      rfl
    · simp -implicitDefEqProofs only [mSeq_ev, sq_nx, sq_rt, sq_bk, sq_ct, sq_ite, of_ok, mSkip_ev, mSetN_ev, mRet_ev, mIf_ev, mFor_ev, mBk_ev, mCt_ev, eB2_ev, eU_ev, eC_ev, aNil_ev, aCons_ev, eCall_ev, eTup_ev, eLst_ev, eSl_ev, oNo_ev, oSo_ev, bOf_ev, bAnd_ev, bOr_ev, bNot_ev, asB_bl, get_mk, set_mk, gV, cI, cS, cB, cN, eF, eFz, iL, iP, iT, i1, i2, iEn, aN, eIsN, eNotN, R.bind_ok, R.map_ok, R.of_some, List.set_cons_zero, List.set_cons_succ, List.getElem?_cons_zero, List.getElem?_cons_succ, List.length_cons, List.length_nil, D.isF, isFL, if_true, if_false, Bool.false_eq_true, Bool.not_true, Bool.not_false, Bool.and_true, Bool.true_and, Bool.and_false, Bool.false_and, bName, bTup, setAll, Nat.zero_add, Nat.reduceAdd, Nat.reduceLeDiff, Nat.reduceEqDiff, List.map_cons, List.map_nil, Option.map_some, Option.bind_some, ix4, ix7, lj, lb, a1, a2, frz_obj, fN, itL]
    · intro d hd
      obtain ⟨x, hx, rfl⟩ := List.mem_map.mp hd
      refine ⟨rfl, ?_, fun _ => ?_⟩
      · simp -implicitDefEqProofs only [mSeq_ev, sq_nx, sq_rt, sq_bk, sq_ct, sq_ite, of_ok, mSkip_ev, mSetN_ev, mRet_ev, mIf_ev, mFor_ev, mBk_ev, mCt_ev, eB2_ev, eU_ev, eC_ev, aNil_ev, aCons_ev, eCall_ev, eTup_ev, eLst_ev, eSl_ev, oNo_ev, oSo_ev, bOf_ev, bAnd_ev, bOr_ev, bNot_ev, asB_bl, get_mk, set_mk, gV, cI, cS, cB, cN, eF, eFz, iL, iP, iT, i1, i2, iEn, aN, eIsN, eNotN, R.bind_ok, R.map_ok, R.of_some, List.set_cons_zero, List.set_cons_succ, List.getElem?_cons_zero, List.getElem?_cons_succ, List.length_cons, List.length_nil, D.isF, isFL, if_true, if_false, Bool.false_eq_true, Bool.not_true, Bool.not_false, Bool.and_true, Bool.true_and, Bool.and_false, Bool.false_and, bName, bTup, setAll, Nat.zero_add, Nat.reduceAdd, Nat.reduceLeDiff, Nat.reduceEqDiff, List.map_cons, List.map_nil, Option.map_some, Option.bind_some, dGe_int]
        rfl
      · simp -implicitDefEqProofs only [mSeq_ev, sq_nx, sq_rt, sq_bk, sq_ct, sq_ite, of_ok, mSkip_ev, mSetN_ev, mRet_ev, mIf_ev, mFor_ev, mBk_ev, mCt_ev, eB2_ev, eU_ev, eC_ev, aNil_ev, aCons_ev, eCall_ev, eTup_ev, eLst_ev, eSl_ev, oNo_ev, oSo_ev, bOf_ev, bAnd_ev, bOr_ev, bNot_ev, asB_bl, get_mk, set_mk, gV, cI, cS, cB, cN, eF, eFz, iL, iP, iT, i1, i2, iEn, aN, eIsN, eNotN, R.bind_ok, R.map_ok, R.of_some, List.set_cons_zero, List.set_cons_succ, List.getElem?_cons_zero, List.getElem?_cons_succ, List.length_cons, List.length_nil, D.isF, isFL, if_true, if_false, Bool.false_eq_true, Bool.not_true, Bool.not_false, Bool.and_true, Bool.true_and, Bool.and_false, Bool.false_and, bName, bTup, setAll, Nat.zero_add, Nat.reduceAdd, Nat.reduceLeDiff, Nat.reduceEqDiff, List.map_cons, List.map_nil, Option.map_some, Option.bind_some]
        rfl
  have q1 := wd_le (!((P.length : Int) == 24)) "map length"
  have q2 := wd_le (!((m : Int) == 24)) "erases length"
  have q3 := wd_le (N.any fun x => decide (24 ≤ x)) "block number"
  have q4 := wd_le (!decide (mp P).Nodup) "map twice"
  have q5 := wd_le (decide (b ∈ mp P)) "anchor mapped"
  have m1 : ("map twice" : Str) ∉ wd (!((P.length : Int) == 24)) "map length" ++ wd (!((m : Int) == 24)) "erases length" ++ wd (N.any fun x => decide (24 ≤ x)) "block number" := by
    simp only [List.mem_append, not_or]
    exact ⟨⟨wd_no (by decide), wd_no (by decide)⟩, wd_no (by decide)⟩
  have m2 : ("journal" : Str) ∉ wd (!((P.length : Int) == 24)) "map length" ++ wd (!((m : Int) == 24)) "erases length" ++ wd (N.any fun x => decide (24 ≤ x)) "block number" ++ wd (!decide (mp P).Nodup) "map twice" ++ wd (decide (b ∈ mp P)) "anchor mapped" := by
    simp only [List.mem_append, not_or]
    exact ⟨⟨⟨⟨wd_no (by decide), wd_no (by decide)⟩, wd_no (by decide)⟩, wd_no (by decide)⟩, wd_no (by decide)⟩
  have hw : words P J B m b = wd (!((P.length : Int) == 24)) "map length" ++ wd (!((m : Int) == 24)) "erases length" ++ wd (N.any fun x => decide (24 ≤ x)) "block number" ++ wd (!decide (mp P).Nodup) "map twice" ++ wd (decide (b ∈ mp P)) "anchor mapped" ++ wd (jw P J) "journal" := by
    unfold words
    rw [hN]
  generalize hw1 : wd (!((P.length : Int) == 24)) "map length" = w1 at q1 m1 m2 hw
  generalize hw2 : wd (!((m : Int) == 24)) "erases length" = w2 at q2 m1 m2 hw
  generalize hw3 : wd (N.any fun x => decide (24 ≤ x)) "block number" = w3 at q3 m1 m2 hw
  have step : ∀ {f : SM} {c : Bool} {w : Str} {cond : BX} {ws : List Str} {rest : SM} {k7 : Option D}, f = mIf cond (mApp 5 (cS w)) mSkip → cond (lw b (rootD s J P m B) P ws k7 none) = .ok c → ws.length < 100 →
      mSeq f rest (lw b (rootD s J P m B) P ws k7 none) = rest (lw b (rootD s J P m B) P (ws ++ wd c w) k7 none) := by
    intro f c w cond ws rest k7 e hc hw
    subst e
    rw [mSeq_ev, wd_app _ hc rfl hw rfl]
    rfl
  have start : B__law_words ⟨[some (rootD s J P m B), some (.int b), none, none, none, none, none, none, none], []⟩ =
      (mSeq I__law_words_1 (mSeq I__law_words_2 (mSeq I__law_words_3 (mSeq (mFor (i1 (aCons (eC dLen (aCons (gV 3) aN)) aN)) (bName 7) L__law_words_1) (mSeq I__law_words_5 (mSeq (mFor (i1 (aCons (eC dLen (aCons (eB2 dIx (gV 0) (cI 4)) aN)) aN)) (bName 7) L__law_words_2) (mRetV 5))))))) (lw b (rootD s J P m B) P [] none none) := by
    unfold B__law_words
    simp -implicitDefEqProofs only [mSeq_ev, sq_nx, sq_rt, sq_bk, sq_ct, sq_ite, of_ok, mSkip_ev, mSetN_ev, mRet_ev, mIf_ev, mFor_ev, mBk_ev, mCt_ev, eB2_ev, eU_ev, eC_ev, aNil_ev, aCons_ev, eCall_ev, eTup_ev, eLst_ev, eSl_ev, oNo_ev, oSo_ev, bOf_ev, bAnd_ev, bOr_ev, bNot_ev, asB_bl, get_mk, set_mk, gV, cI, cS, cB, cN, eF, eFz, iL, iP, iT, i1, i2, iEn, aN, eIsN, eNotN, R.bind_ok, R.map_ok, R.of_some, List.set_cons_zero, List.set_cons_succ, List.getElem?_cons_zero, List.getElem?_cons_succ, List.length_cons, List.length_nil, D.isF, isFL, if_true, if_false, Bool.false_eq_true, Bool.not_true, Bool.not_false, Bool.and_true, Bool.true_and, Bool.and_false, Bool.false_and, bName, bTup, setAll, Nat.zero_add, Nat.reduceAdd, Nat.reduceLeDiff, Nat.reduceEqDiff, List.map_cons, List.map_nil, Option.map_some, Option.bind_some, ix5, isFL_o, c1]
    rfl
  obtain ⟨k1, f1⟩ := loop1 (b := b) (s := s) (J := J) (B := B) (m := m) (P := P) m1 (by rw [List.length_append, List.length_append]; omega)
  obtain ⟨k2, k3, f2⟩ := loop2 (b := b) (k7 := k1) ok m2 (by simp only [List.length_append]; omega)
  have h5 : dIn false (.int b) (.obj true .lst ((mp P).map .int)) = some (.bl (decide (b ∈ mp P))) := dIn_int (l := mp P) rfl
  have r1 : it1 [.int (((mp P).map D.int).length : Int)] = .ok (rngL 0 (mp P).length) := by
    rw [List.length_map]
    exact it1_nat (Nat.lt_of_le_of_lt ml (Nat.lt_trans pl (by decide)))
  have r2 : it1 [.int ((J.map D.int).length : Int)] = .ok (rngL 0 J.length) := by
    rw [List.length_map]
    exact it1_nat (Nat.lt_of_le_of_lt jl (by decide))
  rw [start, step (f := I__law_words_1) (c := !((P.length : Int) == 24)) rfl ?_ (by decide), hw1, step (f := I__law_words_2) (c := !((m : Int) == 24)) rfl ?_ (by rw [List.nil_append]; omega), hw2, step (f := I__law_words_3) (c := N.any fun x => decide (24 ≤ x)) rfl ?_ (by simp only [List.length_append, List.length_nil]; omega), hw3,
    List.nil_append, mSeq_ev, mFor_ev]
  · have s1 : i1 (aCons (eC dLen (aCons (gV 3) aN)) aN) (lw b (rootD s J P m B) P (w1 ++ w2 ++ w3) none none) = .ok (rngL 0 (mp P).length) := by simp -implicitDefEqProofs only [mSeq_ev, sq_nx, sq_rt, sq_bk, sq_ct, sq_ite, of_ok, mSkip_ev, mSetN_ev, mRet_ev, mIf_ev, mFor_ev, mBk_ev, mCt_ev, eB2_ev, eU_ev, eC_ev, aNil_ev, aCons_ev, eCall_ev, eTup_ev, eLst_ev, eSl_ev, oNo_ev, oSo_ev, bOf_ev, bAnd_ev, bOr_ev, bNot_ev, asB_bl, get_mk, set_mk, gV, cI, cS, cB, cN, eF, eFz, iL, iP, iT, i1, i2, iEn, aN, eIsN, eNotN, R.bind_ok, R.map_ok, R.of_some, List.set_cons_zero, List.set_cons_succ, List.getElem?_cons_zero, List.getElem?_cons_succ, List.length_cons, List.length_nil, D.isF, isFL, if_true, if_false, Bool.false_eq_true, Bool.not_true, Bool.not_false, Bool.and_true, Bool.true_and, Bool.and_false, Bool.false_and, bName, bTup, setAll, Nat.zero_add, Nat.reduceAdd, Nat.reduceLeDiff, Nat.reduceEqDiff, List.map_cons, List.map_nil, Option.map_some, Option.bind_some, dLen_lst, r1]
    rw [s1, of_ok, f1, sq_nx, step (f := I__law_words_5) (c := decide (b ∈ mp P)) rfl ?_ (by simp only [List.length_append]; omega), mSeq_ev, mFor_ev]
    · have s2 : i1 (aCons (eC dLen (aCons (eB2 dIx (gV 0) (cI 4)) aN)) aN) (lw b (rootD s J P m B) P (w1 ++ w2 ++ w3 ++ wd (!decide (mp P).Nodup) "map twice" ++ wd (decide (b ∈ mp P)) "anchor mapped") k1 none) = .ok (rngL 0 J.length) := by simp -implicitDefEqProofs only [mSeq_ev, sq_nx, sq_rt, sq_bk, sq_ct, sq_ite, of_ok, mSkip_ev, mSetN_ev, mRet_ev, mIf_ev, mFor_ev, mBk_ev, mCt_ev, eB2_ev, eU_ev, eC_ev, aNil_ev, aCons_ev, eCall_ev, eTup_ev, eLst_ev, eSl_ev, oNo_ev, oSo_ev, bOf_ev, bAnd_ev, bOr_ev, bNot_ev, asB_bl, get_mk, set_mk, gV, cI, cS, cB, cN, eF, eFz, iL, iP, iT, i1, i2, iEn, aN, eIsN, eNotN, R.bind_ok, R.map_ok, R.of_some, List.set_cons_zero, List.set_cons_succ, List.getElem?_cons_zero, List.getElem?_cons_succ, List.length_cons, List.length_nil, D.isF, isFL, if_true, if_false, Bool.false_eq_true, Bool.not_true, Bool.not_false, Bool.and_true, Bool.true_and, Bool.and_false, Bool.false_and, bName, bTup, setAll, Nat.zero_add, Nat.reduceAdd, Nat.reduceLeDiff, Nat.reduceEqDiff, List.map_cons, List.map_nil, Option.map_some, Option.bind_some, ix4, dLen_tup, r2]
      rw [s2, of_ok, f2, sq_nx, mRetV_ev rfl, hw]
    · simp -implicitDefEqProofs only [mSeq_ev, sq_nx, sq_rt, sq_bk, sq_ct, sq_ite, of_ok, mSkip_ev, mSetN_ev, mRet_ev, mIf_ev, mFor_ev, mBk_ev, mCt_ev, eB2_ev, eU_ev, eC_ev, aNil_ev, aCons_ev, eCall_ev, eTup_ev, eLst_ev, eSl_ev, oNo_ev, oSo_ev, bOf_ev, bAnd_ev, bOr_ev, bNot_ev, asB_bl, get_mk, set_mk, gV, cI, cS, cB, cN, eF, eFz, iL, iP, iT, i1, i2, iEn, aN, eIsN, eNotN, R.bind_ok, R.map_ok, R.of_some, List.set_cons_zero, List.set_cons_succ, List.getElem?_cons_zero, List.getElem?_cons_succ, List.length_cons, List.length_nil, D.isF, isFL, if_true, if_false, Bool.false_eq_true, Bool.not_true, Bool.not_false, Bool.and_true, Bool.true_and, Bool.and_false, Bool.false_and, bName, bTup, setAll, Nat.zero_add, Nat.reduceAdd, Nat.reduceLeDiff, Nat.reduceEqDiff, List.map_cons, List.map_nil, Option.map_some, Option.bind_some, h5]
  · simp -implicitDefEqProofs only [mSeq_ev, sq_nx, sq_rt, sq_bk, sq_ct, sq_ite, of_ok, mSkip_ev, mSetN_ev, mRet_ev, mIf_ev, mFor_ev, mBk_ev, mCt_ev, eB2_ev, eU_ev, eC_ev, aNil_ev, aCons_ev, eCall_ev, eTup_ev, eLst_ev, eSl_ev, oNo_ev, oSo_ev, bOf_ev, bAnd_ev, bOr_ev, bNot_ev, asB_bl, get_mk, set_mk, gV, cI, cS, cB, cN, eF, eFz, iL, iP, iT, i1, i2, iEn, aN, eIsN, eNotN, R.bind_ok, R.map_ok, R.of_some, List.set_cons_zero, List.set_cons_succ, List.getElem?_cons_zero, List.getElem?_cons_succ, List.length_cons, List.length_nil, D.isF, isFL, if_true, if_false, Bool.false_eq_true, Bool.not_true, Bool.not_false, Bool.and_true, Bool.true_and, Bool.and_false, Bool.false_and, bName, bTup, setAll, Nat.zero_add, Nat.reduceAdd, Nat.reduceLeDiff, Nat.reduceEqDiff, List.map_cons, List.map_nil, Option.map_some, Option.bind_some, c2, dLen_lst, List.length_map, dGt_int, filt_any]
  · simp -implicitDefEqProofs only [mSeq_ev, sq_nx, sq_rt, sq_bk, sq_ct, sq_ite, of_ok, mSkip_ev, mSetN_ev, mRet_ev, mIf_ev, mFor_ev, mBk_ev, mCt_ev, eB2_ev, eU_ev, eC_ev, aNil_ev, aCons_ev, eCall_ev, eTup_ev, eLst_ev, eSl_ev, oNo_ev, oSo_ev, bOf_ev, bAnd_ev, bOr_ev, bNot_ev, asB_bl, get_mk, set_mk, gV, cI, cS, cB, cN, eF, eFz, iL, iP, iT, i1, i2, iEn, aN, eIsN, eNotN, R.bind_ok, R.map_ok, R.of_some, List.set_cons_zero, List.set_cons_succ, List.getElem?_cons_zero, List.getElem?_cons_succ, List.length_cons, List.length_nil, D.isF, isFL, if_true, if_false, Bool.false_eq_true, Bool.not_true, Bool.not_false, Bool.and_true, Bool.true_and, Bool.and_false, Bool.false_and, bName, bTup, setAll, Nat.zero_add, Nat.reduceAdd, Nat.reduceLeDiff, Nat.reduceEqDiff, List.map_cons, List.map_nil, Option.map_some, Option.bind_some, ix6, dLen_tup, List.length_replicate, dNe_int]
  · simp -implicitDefEqProofs only [mSeq_ev, sq_nx, sq_rt, sq_bk, sq_ct, sq_ite, of_ok, mSkip_ev, mSetN_ev, mRet_ev, mIf_ev, mFor_ev, mBk_ev, mCt_ev, eB2_ev, eU_ev, eC_ev, aNil_ev, aCons_ev, eCall_ev, eTup_ev, eLst_ev, eSl_ev, oNo_ev, oSo_ev, bOf_ev, bAnd_ev, bOr_ev, bNot_ev, asB_bl, get_mk, set_mk, gV, cI, cS, cB, cN, eF, eFz, iL, iP, iT, i1, i2, iEn, aN, eIsN, eNotN, R.bind_ok, R.map_ok, R.of_some, List.set_cons_zero, List.set_cons_succ, List.getElem?_cons_zero, List.getElem?_cons_succ, List.length_cons, List.length_nil, D.isF, isFL, if_true, if_false, Bool.false_eq_true, Bool.not_true, Bool.not_false, Bool.and_true, Bool.true_and, Bool.and_false, Bool.false_and, bName, bTup, setAll, Nat.zero_add, Nat.reduceAdd, Nat.reduceLeDiff, Nat.reduceEqDiff, List.map_cons, List.map_nil, Option.map_some, Option.bind_some, dLen_tup, len_o, dNe_int]
end
end K81

set_option Elab.async false
set_option linter.all false
set_option maxRecDepth 100000
set_option maxHeartbeats 4000000
namespace K81
open PySem L2 Tm
/-! ### root_page -/
theorem atI0 {α : Type} {x : α} {r : List α} : atI (x :: r) 0 = some x := by
  rw [atI_at (by omega) (by rw [List.length_cons]; omega)]
  rfl
theorem atI1 {α : Type} {x y : α} {r : List α} : atI (x :: y :: r) 1 = some y := by
  rw [atI_at (by omega) (by rw [List.length_cons, List.length_cons]; omega)]
  rfl
theorem atN {α : Type} {l : List α} {i : Nat} {x : α} (h : l[i]? = some x) : atI l (i : Int) = some x := by
  have hi := (List.getElem?_eq_some_iff.mp h).1
  rw [atI_at (by omega) (by omega), Int.toNat_natCast, h]
def Miss (s : Int) (y : D) : Prop := (∃ w r, y = .tup (.str w :: r) ∧ PyData.strOk w = true ∧ (w == "right") = false) ∨ (∃ w r r', y = .tup (.str "right" :: .tup (.str w :: r) :: r') ∧ PyData.strOk w = true ∧ (w == "root") = false) ∨
  (∃ s' r r', y = .tup (.str "right" :: .tup (.str "root" :: .int s' :: r) :: r') ∧ (s' == s) = false)
def hit (s : Int) (J : List Int) (P : List (Option Int)) (m : Nat) (B : List Int) : D := .tup [.str "right", rootD s J P m B]
theorem enumL_app : ∀ (xs ys : List D) (k : Nat), enumL k (xs ++ ys) = enumL k xs ++ enumL (k + xs.length) ys
  | [], ys, k => rfl
  | x :: r, ys, k => by
    rw [List.cons_append, enumL, enumL, enumL_app r ys (k + 1), List.cons_append, List.length_cons, Nat.add_right_comm, Nat.add_assoc]
theorem enumL_mem : ∀ (xs : List D) (k : Nat) (d : D), d ∈ enumL k xs → ∃ (i : Nat) (y : D), d = .tup [.int i, y] ∧ y ∈ xs
  | x :: r, k, d, h => by
    rw [enumL] at h
    rcases List.mem_cons.mp h with rfl | h
    · exact ⟨k, x, rfl, List.mem_cons_self⟩
    · obtain ⟨i, y, e, m⟩ := enumL_mem r (k + 1) d h
      exact ⟨i, y, e, List.mem_cons_of_mem _ m⟩
section
variable {b s : Int} {J B : List Int} {P : List (Option Int)} {m : Nat}
theorem sR : PyData.strOk "right" = true := by decide +kernel
theorem sT : PyData.strOk "root" = true := by decide +kernel
theorem ix0 : dIx (rootD s J P m B) (.int 0) = some (.str "root") := rfl
theorem ix1 : dIx (rootD s J P m B) (.int 1) = some (.int s) := rfl
abbrev sg (rows : List D) (b : Int) (root : D) (a c : Option D) : S := ⟨[some (.obj false .lst rows), some (.int b), some root, a, c], []⟩
theorem miss_step {rows : List D} {y : D} {a : Option D} (h : Miss s y) : L_root_page_1 (sg rows b (rootD s J P m B) a (some y)) = .nx (sg rows b (rootD s J P m B) a (some y)) := by
  unfold L_root_page_1 I_root_page_1
  rcases h with ⟨w, r, rfl, ok, ne⟩ | ⟨w, r, r', rfl, ok, ne⟩ | ⟨s', r, r', rfl, ne⟩
  · simp -implicitDefEqProofs only [mSeq_ev, sq_nx, sq_rt, sq_bk, sq_ct, sq_ite, of_ok, mSkip_ev, mSetN_ev, mRet_ev, mIf_ev, mFor_ev, mBk_ev, mCt_ev, eB2_ev, eU_ev, eC_ev, aNil_ev, aCons_ev, eCall_ev, eTup_ev, eLst_ev, eSl_ev, oNo_ev, oSo_ev, bOf_ev, bAnd_ev, bOr_ev, bNot_ev, asB_bl, get_mk, set_mk, gV, cI, cS, cB, cN, eF, eFz, iL, iP, iT, i1, i2, iEn, aN, eIsN, eNotN, R.bind_ok, R.map_ok, R.of_some, List.set_cons_zero, List.set_cons_succ, List.getElem?_cons_zero, List.getElem?_cons_succ, List.length_cons, List.length_nil, D.isF, isFL, if_true, if_false, Bool.false_eq_true, Bool.not_true, Bool.not_false, Bool.and_true, Bool.true_and, Bool.and_false, Bool.false_and, bName, bTup, setAll, Nat.zero_add, Nat.reduceAdd, Nat.reduceLeDiff, Nat.reduceEqDiff, List.map_cons, List.map_nil, Option.map_some, Option.bind_some, dIx_tup, atI0, dEq_str ok sR, ne]
  · have e1 : (("right" : Str) == ("right" : Str)) = true := by decide
    simp -implicitDefEqProofs only [mSeq_ev, sq_nx, sq_rt, sq_bk, sq_ct, sq_ite, of_ok, mSkip_ev, mSetN_ev, mRet_ev, mIf_ev, mFor_ev, mBk_ev, mCt_ev, eB2_ev, eU_ev, eC_ev, aNil_ev, aCons_ev, eCall_ev, eTup_ev, eLst_ev, eSl_ev, oNo_ev, oSo_ev, bOf_ev, bAnd_ev, bOr_ev, bNot_ev, asB_bl, get_mk, set_mk, gV, cI, cS, cB, cN, eF, eFz, iL, iP, iT, i1, i2, iEn, aN, eIsN, eNotN, R.bind_ok, R.map_ok, R.of_some, List.set_cons_zero, List.set_cons_succ, List.getElem?_cons_zero, List.getElem?_cons_succ, List.length_cons, List.length_nil, D.isF, isFL, if_true, if_false, Bool.false_eq_true, Bool.not_true, Bool.not_false, Bool.and_true, Bool.true_and, Bool.and_false, Bool.false_and, bName, bTup, setAll, Nat.zero_add, Nat.reduceAdd, Nat.reduceLeDiff, Nat.reduceEqDiff, List.map_cons, List.map_nil, Option.map_some, Option.bind_some, dIx_tup, atI0, atI1, dEq_str sR sR, dEq_str ok sT, e1, ne]
  · have e1 : (("right" : Str) == ("right" : Str)) = true := by decide
    have e2 : (("root" : Str) == ("root" : Str)) = true := by decide
    simp -implicitDefEqProofs only [mSeq_ev, sq_nx, sq_rt, sq_bk, sq_ct, sq_ite, of_ok, mSkip_ev, mSetN_ev, mRet_ev, mIf_ev, mFor_ev, mBk_ev, mCt_ev, eB2_ev, eU_ev, eC_ev, aNil_ev, aCons_ev, eCall_ev, eTup_ev, eLst_ev, eSl_ev, oNo_ev, oSo_ev, bOf_ev, bAnd_ev, bOr_ev, bNot_ev, asB_bl, get_mk, set_mk, gV, cI, cS, cB, cN, eF, eFz, iL, iP, iT, i1, i2, iEn, aN, eIsN, eNotN, R.bind_ok, R.map_ok, R.of_some, List.set_cons_zero, List.set_cons_succ, List.getElem?_cons_zero, List.getElem?_cons_succ, List.length_cons, List.length_nil, D.isF, isFL, if_true, if_false, Bool.false_eq_true, Bool.not_true, Bool.not_false, Bool.and_true, Bool.true_and, Bool.and_false, Bool.false_and, bName, bTup, setAll, Nat.zero_add, Nat.reduceAdd, Nat.reduceLeDiff, Nat.reduceEqDiff, List.map_cons, List.map_nil, Option.map_some, Option.bind_some, dIx_tup, atI0, atI1, dEq_str sR sR, dEq_str sT sT, e1, e2, ix1, dEq_int, ne]
theorem hit_step {rows : List D} {k : Int} : L_root_page_1 (sg rows b (rootD s J P m B) (some (.int k)) (some (hit s J P m B))) = .rt (.int k) [] := by
  have e1 : (("right" : Str) == ("right" : Str)) = true := by decide
  have e2 : (("root" : Str) == ("root" : Str)) = true := by decide
  have e3 : (s == s) = true := beq_self_eq_true s
  unfold L_root_page_1 I_root_page_1 hit
  simp -implicitDefEqProofs only [mSeq_ev, sq_nx, sq_rt, sq_bk, sq_ct, sq_ite, of_ok, mSkip_ev, mSetN_ev, mRet_ev, mIf_ev, mFor_ev, mBk_ev, mCt_ev, eB2_ev, eU_ev, eC_ev, aNil_ev, aCons_ev, eCall_ev, eTup_ev, eLst_ev, eSl_ev, oNo_ev, oSo_ev, bOf_ev, bAnd_ev, bOr_ev, bNot_ev, asB_bl, get_mk, set_mk, gV, cI, cS, cB, cN, eF, eFz, iL, iP, iT, i1, i2, iEn, aN, eIsN, eNotN, R.bind_ok, R.map_ok, R.of_some, List.set_cons_zero, List.set_cons_succ, List.getElem?_cons_zero, List.getElem?_cons_succ, List.length_cons, List.length_nil, D.isF, isFL, if_true, if_false, Bool.false_eq_true, Bool.not_true, Bool.not_false, Bool.and_true, Bool.true_and, Bool.and_false, Bool.false_and, bName, bTup, setAll, Nat.zero_add, Nat.reduceAdd, Nat.reduceLeDiff, Nat.reduceEqDiff, List.map_cons, List.map_nil, Option.map_some, Option.bind_some, dIx_tup, atI0, atI1, dEq_str sR sR, dEq_str sT sT, e1, e2, e3, ix0, ix1, dEq_int]
theorem page_ok {rows pre post : List D} {bn : Nat} (hr : rows[bn]? = some (.obj false .lst (pre ++ hit s J P m B :: post))) (hf : isFL (pre ++ hit s J P m B :: post) = true) (hp : ∀ y ∈ pre, Miss s y) : F_root_page [.obj false .lst rows, .int bn, rootD s J P m B] [] = .ok (.int pre.length) := by
  refine fnP_rt (bx' := []) ?_
  show B_root_page ⟨[some (.obj false .lst rows), some (.int bn), some (rootD s J P m B), none, none], []⟩ = _
  have key : ∀ a c : Option D, forL (bTup [3, 4]) L_root_page_1 (enumL 0 (pre ++ hit s J P m B :: post)) (sg rows bn (rootD s J P m B) a c) = .rt (.int pre.length) [] := fun a c => by
    rw [enumL_app]
    show forL _ _ (enumL 0 pre ++ .tup [.int ((0 + pre.length : Nat) : Int), hit s J P m B] :: enumL (0 + pre.length + 1) post) _ = _
    rw [Nat.zero_add]
    refine forL_rt (fun ρ => ∃ a c, ρ = sg rows bn (rootD s J P m B) a c) ?_ ?_ ⟨a, c, rfl⟩
    · rintro d hd ρ ⟨a, c, rfl⟩
      obtain ⟨i, y, rfl, hy⟩ := enumL_mem _ _ _ hd
      exact ⟨_, _, rfl, miss_step (hp y hy), _, _, rfl⟩
    · rintro ρ ⟨a, c, rfl⟩
      exact ⟨_, rfl, hit_step⟩
  have it : itEnum [.obj false .lst (pre ++ hit s J P m B :: post)] = .ok (enumL 0 (pre ++ hit s J P m B :: post)) := rfl
  generalize hpg : pre ++ hit s J P m B :: post = pages at hr hf key it
  unfold B_root_page
  simp -implicitDefEqProofs only [mSeq_ev, sq_nx, sq_rt, sq_bk, sq_ct, sq_ite, of_ok, mSkip_ev, mSetN_ev, mRet_ev, mIf_ev, mFor_ev, mBk_ev, mCt_ev, eB2_ev, eU_ev, eC_ev, aNil_ev, aCons_ev, eCall_ev, eTup_ev, eLst_ev, eSl_ev, oNo_ev, oSo_ev, bOf_ev, bAnd_ev, bOr_ev, bNot_ev, asB_bl, get_mk, set_mk, gV, cI, cS, cB, cN, eF, eFz, iL, iP, iT, i1, i2, iEn, aN, eIsN, eNotN, R.bind_ok, R.map_ok, R.of_some, List.set_cons_zero, List.set_cons_succ, List.getElem?_cons_zero, List.getElem?_cons_succ, List.length_cons, List.length_nil, D.isF, isFL, if_true, if_false, Bool.false_eq_true, Bool.not_true, Bool.not_false, Bool.and_true, Bool.true_and, Bool.and_false, Bool.false_and, bName, bTup, setAll, Nat.zero_add, Nat.reduceAdd, Nat.reduceLeDiff, Nat.reduceEqDiff, List.map_cons, List.map_nil, Option.map_some, Option.bind_some, dIx_lst, atN hr, hf, it, key]
/-! ### root_defects, the same as the law's -/
def dueD (b k : Int) (ws : List Str) : D := .obj true .lst (ws.map fun w => .tup [.int b, .int k, .str w])
theorem defects_ok {rows pre post : List D} {bn : Nat} (hl : rows.length = 24) (hR : isFL rows = true) (ok : RootOk s J P m B) (hr : rows[bn]? = some (.obj false .lst (pre ++ hit s J P m B :: post))) (hf : isFL (pre ++ hit s J P m B :: post) = true) (hp : ∀ y ∈ pre, Miss s y) :
    F_root_defects [.obj false .lst rows, .int bn, rootD s J P m B] [] = .ok (dueD bn pre.length (words P J B m bn)) := by
  refine fnP_rt (bx' := []) ?_
  show B_root_defects ⟨[some (.obj false .lst rows), some (.int bn), some (rootD s J P m B), none, none], []⟩ = _
  have pg := page_ok (P := P) (J := J) (B := B) (m := m) hr hf hp
  have wo := words_ok (b := bn) hl ok
  generalize hk : (pre.length : Int) = k at pg
  generalize hW : words P J B m bn = W at wo
  have hWl : W.length ≤ 6 := by
    rw [← hW]
    unfold words
    simp only [List.length_append]
    have a1 := wd_le (!((P.length : Int) == 24)) "map length"
    have a2 := wd_le (!((m : Int) == 24)) "erases length"
    have a3 := wd_le ((mp P ++ J ++ B).any fun x => decide (24 ≤ x)) "block number"
    have a4 := wd_le (!decide (mp P).Nodup) "map twice"
    have a5 := wd_le (decide ((bn : Int) ∈ mp P)) "anchor mapped"
    have a6 := wd_le (jw P J) "journal"
    omega
  generalize hbn : (bn : Int) = b' at pg wo
  have fW : frzL (W.map .str) = W.map D.str := frzL_id (isFL_strs W)
  have c1 : C_root_defects_1 ⟨[some (.obj false .lst rows), some (.int b'), some (rootD s J P m B), some (.int k), none], []⟩ = .ok (dueD b' k W) := by
    let un : D → Str := fun x => match x with | .str w => w | _ => ""
    unfold C_root_defects_1
    rw [eLc_ev (xs := W.map .str) (fun d => ⟨[some (.obj false .lst rows), some (.int b'), some (rootD s J P m B), some (.int k), some d], []⟩) (fun _ => true) (fun d => .tup [.int b', .int k, .str (un d)]) ?_ (by rw [List.length_map]; omega) ?_]
    · have e : (W.map D.str).filter (fun _ => true) = W.map D.str := List.filter_eq_self.mpr fun _ _ => rfl
      rw [e, List.map_map]
      rfl
    · simp -implicitDefEqProofs only [mSeq_ev, sq_nx, sq_rt, sq_bk, sq_ct, sq_ite, of_ok, mSkip_ev, mSetN_ev, mRet_ev, mIf_ev, mFor_ev, mBk_ev, mCt_ev, eB2_ev, eU_ev, eC_ev, aNil_ev, aCons_ev, eCall_ev, eTup_ev, eLst_ev, eSl_ev, oNo_ev, oSo_ev, bOf_ev, bAnd_ev, bOr_ev, bNot_ev, asB_bl, get_mk, set_mk, gV, cI, cS, cB, cN, eF, eFz, iL, iP, iT, i1, i2, iEn, aN, eIsN, eNotN, R.bind_ok, R.map_ok, R.of_some, List.set_cons_zero, List.set_cons_succ, List.getElem?_cons_zero, List.getElem?_cons_succ, List.length_cons, List.length_nil, D.isF, isFL, if_true, if_false, Bool.false_eq_true, Bool.not_true, Bool.not_false, Bool.and_true, Bool.true_and, Bool.and_false, Bool.false_and, bName, bTup, setAll, Nat.zero_add, Nat.reduceAdd, Nat.reduceLeDiff, Nat.reduceEqDiff, List.map_cons, List.map_nil, Option.map_some, Option.bind_some, hR, root_isF, wo, frz_obj, fW, itL]
    · intro d hd
      obtain ⟨w, hw, rfl⟩ := List.mem_map.mp hd
      refine ⟨rfl, rfl, fun _ => ?_⟩
      simp -implicitDefEqProofs only [mSeq_ev, sq_nx, sq_rt, sq_bk, sq_ct, sq_ite, of_ok, mSkip_ev, mSetN_ev, mRet_ev, mIf_ev, mFor_ev, mBk_ev, mCt_ev, eB2_ev, eU_ev, eC_ev, aNil_ev, aCons_ev, eCall_ev, eTup_ev, eLst_ev, eSl_ev, oNo_ev, oSo_ev, bOf_ev, bAnd_ev, bOr_ev, bNot_ev, asB_bl, get_mk, set_mk, gV, cI, cS, cB, cN, eF, eFz, iL, iP, iT, i1, i2, iEn, aN, eIsN, eNotN, R.bind_ok, R.map_ok, R.of_some, List.set_cons_zero, List.set_cons_succ, List.getElem?_cons_zero, List.getElem?_cons_succ, List.length_cons, List.length_nil, D.isF, isFL, if_true, if_false, Bool.false_eq_true, Bool.not_true, Bool.not_false, Bool.and_true, Bool.true_and, Bool.and_false, Bool.false_and, bName, bTup, setAll, Nat.zero_add, Nat.reduceAdd, Nat.reduceLeDiff, Nat.reduceEqDiff, List.map_cons, List.map_nil, Option.map_some, Option.bind_some]
      rfl
  unfold B_root_defects
  simp -implicitDefEqProofs only [mSeq_ev, sq_nx, sq_rt, sq_bk, sq_ct, sq_ite, of_ok, mSkip_ev, mSetN_ev, mRet_ev, mIf_ev, mFor_ev, mBk_ev, mCt_ev, eB2_ev, eU_ev, eC_ev, aNil_ev, aCons_ev, eCall_ev, eTup_ev, eLst_ev, eSl_ev, oNo_ev, oSo_ev, bOf_ev, bAnd_ev, bOr_ev, bNot_ev, asB_bl, get_mk, set_mk, gV, cI, cS, cB, cN, eF, eFz, iL, iP, iT, i1, i2, iEn, aN, eIsN, eNotN, R.bind_ok, R.map_ok, R.of_some, List.set_cons_zero, List.set_cons_succ, List.getElem?_cons_zero, List.getElem?_cons_succ, List.length_cons, List.length_nil, D.isF, isFL, if_true, if_false, Bool.false_eq_true, Bool.not_true, Bool.not_false, Bool.and_true, Bool.true_and, Bool.and_false, Bool.false_and, bName, bTup, setAll, Nat.zero_add, Nat.reduceAdd, Nat.reduceLeDiff, Nat.reduceEqDiff, List.map_cons, List.map_nil, Option.map_some, Option.bind_some, hR, root_isF, pg, c1]
end
end K81

set_option Elab.async false
set_option linter.all false
set_option maxRecDepth 100000
set_option maxHeartbeats 4000000
namespace K81
open PySem L2 Tm
/-! ### the law's scan -/
def pg0 : D := .tup [.str "blank"]
def pg1 : D := .tup [.str "damaged"]
def pg2 : D := .tup [.str "right", .tup [.str "mark", .int 3]]
def blanks : List D := [pg0, pg1, pg2, pg0]
def row0 : D := .obj true .lst blanks
def otherD (s : Int) : D := .tup [.str "root", .int s, .int 7, .non, .tup [], .tup [], .tup [], .tup []]
def PgOk (y : D) : Prop := y.isF = true ∧ Okd 12000 3 y
theorem okS {w : Str} (h : (PyData.str w).canLay0 = true) (hl : (PyData.str w).shown.length ≤ 20) : Okd 20 0 (.str w) := Okd.str h hl
theorem sho : ∀ w ∈ (["blank", "damaged", "right", "mark", "root", "map length", "erases length", "block number", "map twice", "anchor mapped", "journal"] : List Str), (PyData.str w).canLay0 = true ∧ (PyData.str w).shown.length ≤ 20 := by decide +kernel
theorem okW {w : Str} (h : w ∈ (["blank", "damaged", "right", "mark", "root", "map length", "erases length", "block number", "map twice", "anchor mapped", "journal"] : List Str)) : Okd 20 0 (.str w) := okS (sho w h).1 (sho w h).2
theorem one {p : D → Prop} {x : D} (h : p x) : ∀ y ∈ [x], p y := fun y m => by rw [List.mem_singleton.mp m]; exact h
theorem pg0_ok : PgOk pg0 := ⟨rfl, (Okd.tup (one (okW (by decide)))).mono (Nat.le_of_ble_eq_true rfl) (by decide)⟩
theorem pg1_ok : PgOk pg1 := ⟨rfl, (Okd.tup (one (okW (by decide)))).mono (Nat.le_of_ble_eq_true rfl) (by decide)⟩
theorem pg2_ok : PgOk pg2 := ⟨rfl, by
  have i : Okd 100 1 (.tup [.str "mark", .int 3]) := (Okd.tup (n := 20) (k := 0) fun y m => by
    simp only [List.mem_cons, List.not_mem_nil, or_false] at m
    rcases m with rfl | rfl
    · exact okW (by decide)
    · exact (Okd.int (by decide) (by decide)).mono (Nat.le_of_ble_eq_true rfl) (by decide)).mono (Nat.le_of_ble_eq_true rfl) (by decide)
  exact (Okd.tup (n := 100) (k := 1) fun y m => by
    simp only [List.mem_cons, List.not_mem_nil, or_false] at m
    rcases m with rfl | rfl
    · exact (okW (by decide)).mono (Nat.le_of_ble_eq_true rfl) (by decide)
    · exact i).mono (Nat.le_of_ble_eq_true rfl) (by decide)⟩
theorem oth_ok {s : Int} (h0 : 0 ≤ s) (h1 : s < 200) : PgOk (.tup [.str "right", otherD s]) := ⟨rfl, by
  have e : Okd 3 1 (.tup []) := (Okd.tup (n := 0) (k := 0) (xs := []) fun y m => nomatch m).mono (Nat.le_of_ble_eq_true rfl) (by decide)
  have i : Okd 500 2 (otherD s) := (Okd.tup (n := 20) (k := 1) fun y m => by
    simp only [List.mem_cons, List.not_mem_nil, or_false] at m
    rcases m with rfl | rfl | rfl | rfl | rfl | rfl | rfl | rfl
    · exact (okW (by decide)).mono (Nat.le_of_ble_eq_true rfl) (by decide)
    · exact (Okd.int h0 h1).mono (Nat.le_of_ble_eq_true rfl) (by decide)
    · exact (Okd.int (by decide) (by decide)).mono (Nat.le_of_ble_eq_true rfl) (by decide)
    · exact Okd.non.mono (Nat.le_of_ble_eq_true rfl) (by decide)
    · exact e.mono (Nat.le_of_ble_eq_true rfl) (by decide)
    · exact e.mono (Nat.le_of_ble_eq_true rfl) (by decide)
    · exact e.mono (Nat.le_of_ble_eq_true rfl) (by decide)
    · exact e.mono (Nat.le_of_ble_eq_true rfl) (by decide)).mono (Nat.le_of_ble_eq_true rfl) (by decide)
  exact (Okd.tup (n := 500) (k := 2) fun y m => by
    simp only [List.mem_cons, List.not_mem_nil, or_false] at m
    rcases m with rfl | rfl
    · exact (okW (by decide)).mono (Nat.le_of_ble_eq_true rfl) (by decide)
    · exact i).mono (Nat.le_of_ble_eq_true rfl) (by decide)⟩
section
variable {b s : Int} {J B : List Int} {P : List (Option Int)} {m : Nat}
theorem root_Okd (ok : RootOk s J P m B) : Okd 5700 2 (rootD s J P m B) := by
  have tj : Okd 700 1 (.tup (J.map .int)) := (Okd.tup (n := 3) (k := 0) fun y h => by
    obtain ⟨x, hx, rfl⟩ := List.mem_map.mp h
    have := ok.j2 x hx
    exact Okd.int (by omega) (by omega)).mono (by rw [List.length_map]; have := ok.j1; omega) (by decide)
  have tb : Okd 700 1 (.tup (B.map .int)) := (Okd.tup (n := 3) (k := 0) fun y h => by
    obtain ⟨x, hx, rfl⟩ := List.mem_map.mp h
    have := ok.b2 x hx
    exact Okd.int (by omega) (by omega)).mono (by rw [List.length_map]; have := ok.b1; omega) (by decide)
  have tp : Okd 700 1 (.tup (P.map oD)) := (Okd.tup (n := 4) (k := 0) fun y h => by
    obtain ⟨o, ho, rfl⟩ := List.mem_map.mp h
    cases o with
    | none => exact Okd.non
    | some x =>
      have := ok.p1 x ho
      exact (Okd.int (by omega) (by omega)).mono (Nat.le_of_ble_eq_true rfl) (by decide)).mono (by rw [List.length_map]; have := ok.p2; omega) (by decide)
  have tm : Okd 700 1 (.tup (List.replicate m (.int 1))) := (Okd.tup (n := 3) (k := 0) fun y h => by
    rw [List.eq_of_mem_replicate h]
    exact Okd.int (by decide) (by decide)).mono (by rw [List.length_replicate]; have := ok.m2; omega) (by decide)
  refine (Okd.tup (n := 700) (k := 1) fun y h => ?_).mono (Nat.le_of_ble_eq_true rfl) (by decide)
  simp only [List.mem_cons, List.not_mem_nil, or_false] at h
  have s1 := ok.s1
  have s2 := ok.s2
  rcases h with rfl | rfl | rfl | rfl | rfl | rfl | rfl | rfl
  · exact (okW (by decide)).mono (Nat.le_of_ble_eq_true rfl) (by decide)
  · exact (Okd.int (by omega) (by omega)).mono (Nat.le_of_ble_eq_true rfl) (by decide)
  · exact (Okd.int (by decide) (by decide)).mono (Nat.le_of_ble_eq_true rfl) (by decide)
  · exact Okd.non.mono (Nat.le_of_ble_eq_true rfl) (by decide)
  · exact tj
  · exact tp
  · exact tm
  · exact tb
theorem hit_ok (ok : RootOk s J P m B) : PgOk (hit s J P m B) := ⟨by simp -implicitDefEqProofs only [hit, D.isF, isFL, root_isF, Bool.and_self], (Okd.tup (n := 5700) (k := 2) fun y h => by
    simp only [List.mem_cons, List.not_mem_nil, or_false] at h
    rcases h with rfl | rfl
    · exact (okW (by decide)).mono (Nat.le_of_ble_eq_true rfl) (by decide)
    · exact root_Okd ok).mono (Nat.le_of_ble_eq_true rfl) (by decide)⟩
theorem miss0 : Miss s pg0 := .inl ⟨_, _, rfl, by decide +kernel, by decide +kernel⟩
theorem miss1 : Miss s pg1 := .inl ⟨_, _, rfl, by decide +kernel, by decide +kernel⟩
theorem miss2 : Miss s pg2 := .inr (.inl ⟨_, _, _, rfl, by decide +kernel, by decide +kernel⟩)
theorem missO {s' : Int} (h : s' ≠ s) : Miss s (.tup [.str "right", otherD s']) := .inr (.inr ⟨s', _, _, rfl, beq_eq_false_iff_ne.mpr h⟩)
structure Pgs (s : Int) (h : D) (f : Nat) (pages : List D) : Prop where
  len : pages.length = 4
  at_ : pages[f]? = some h
  miss : ∀ j y, j < f → pages[j]? = some y → Miss s y
  ok : ∀ y ∈ pages, PgOk y
theorem blanks_ok : ∀ y ∈ blanks, PgOk y := by
  intro y h
  simp only [blanks, List.mem_cons, List.not_mem_nil, or_false] at h
  rcases h with rfl | rfl | rfl | rfl
  · exact pg0_ok
  · exact pg1_ok
  · exact pg2_ok
  · exact pg0_ok
theorem blanks_miss : ∀ y ∈ blanks, Miss s y := by
  intro y h
  simp only [blanks, List.mem_cons, List.not_mem_nil, or_false] at h
  rcases h with rfl | rfl | rfl | rfl
  · exact miss0
  · exact miss1
  · exact miss2
  · exact miss0
theorem Pgs.start {f : Nat} {h : D} (hf : f < 4) (ho : PgOk h) : Pgs s h f (blanks.set f h) := by
  refine ⟨by rw [List.length_set]; rfl, ?_, fun j y hj e => ?_, fun y hy => ?_⟩
  · rw [List.getElem?_set_self (by exact hf)]
  · rw [List.getElem?_set_ne (by omega)] at e
    exact blanks_miss y (List.mem_of_getElem? e)
  · rcases List.mem_or_eq_of_mem_set hy with hy | rfl
    · exact blanks_ok y hy
    · exact ho
theorem Pgs.low {f j : Nat} {h y : D} {pages : List D} (p : Pgs s h f pages) (hj : j < f) (hm : Miss s y) (ho : PgOk y) : Pgs s h f (pages.set j y) := by
  refine ⟨by rw [List.length_set, p.len], ?_, fun i z hi e => ?_, fun z hz => ?_⟩
  · rw [List.getElem?_set_ne (by omega), p.at_]
  · by_cases c : j = i
    · subst c
      have := (List.getElem?_eq_some_iff.mp e).1
      rw [List.length_set] at this
      rw [List.getElem?_set_self this] at e
      cases e
      exact hm
    · rw [List.getElem?_set_ne c] at e
      exact p.miss i z hi e
  · rcases List.mem_or_eq_of_mem_set hz with hz | rfl
    · exact p.ok z hz
    · exact ho
theorem Pgs.high {f j : Nat} {h y : D} {pages : List D} (p : Pgs s h f pages) (hj : f < j) (ho : PgOk y) : Pgs s h f (pages.set j y) := by
  refine ⟨by rw [List.length_set, p.len], ?_, fun i z hi e => ?_, fun z hz => ?_⟩
  · rw [List.getElem?_set_ne (by omega), p.at_]
  · rw [List.getElem?_set_ne (by omega)] at e
    exact p.miss i z hi e
  · rcases List.mem_or_eq_of_mem_set hz with hz | rfl
    · exact p.ok z hz
    · exact ho
theorem Pgs.split {f : Nat} {h : D} {pages : List D} (p : Pgs s h f pages) : ∃ pre post, pages = pre ++ h :: post ∧ pre.length = f ∧ ∀ y ∈ pre, Miss s y := by
  obtain ⟨hf, e⟩ := List.getElem?_eq_some_iff.mp p.at_
  refine ⟨pages.take f, pages.drop (f + 1), ?_, by rw [List.length_take]; omega, fun y hy => ?_⟩
  · have e2 := List.take_append_drop f pages
    rw [List.drop_eq_getElem_cons hf, e] at e2
    exact e2.symm
  · obtain ⟨j, hj, e⟩ := List.getElem_of_mem hy
    rw [List.length_take] at hj
    rw [List.getElem_take] at e
    exact p.miss j y (by omega) (by rw [← e]; exact List.getElem?_eq_getElem _)
end
end K81

set_option Elab.async false
set_option linter.all false
set_option maxRecDepth 100000
set_option maxHeartbeats 4000000
namespace K81
open PySem L2 Tm
section
variable {s : Int} {J B : List Int} {P : List (Option Int)} {m : Nat}
abbrev scanL (bn : Nat) (pages : List D) : List D := (List.replicate 24 row0).set bn (.obj true .lst pages)
abbrev lawS (ns ds : List Int) (k : Int) (root : D) (b : Int) (scan : D) (j7 f c8 c9 c10 c11 c12 c13 : Option D) : S := ⟨[some (.obj false .rol (ns.map .int)), some (.obj true .lst (ds.map .int)), some (.int k), some root, some (.int b), some scan, j7, f, c8, c9, c10, c11, c12, c13], []⟩
theorem scan_get {bn : Nat} {pages : List D} (hb : bn < 24) : (scanL bn pages)[bn]? = some (.obj true .lst pages) := by
  unfold scanL
  rw [List.getElem?_set_self (by rw [List.length_replicate]; exact hb)]
theorem scan_set {bn : Nat} {pages pages' : List D} : (scanL bn pages).set bn (.obj true .lst pages') = scanL bn pages' := by
  unfold scanL
  rw [List.set_set]
/-- one page of the scan is written -/
theorem put_ev {ns ds : List Int} {k : Int} {root : D} {bn j : Nat} {pages : List D} {j7 f c8 c9 c10 c11 c12 c13 : Option D} {f1 fj fv : EX} {d : D} (hb : bn < 24) (hj : j < pages.length)
    (e : fv (lawS ns ds k root bn (.obj true .lst (scanL bn pages)) j7 f c8 c9 c10 c11 c12 c13) = .ok d) (e1 : f1 (lawS ns ds k root bn (.obj true .lst (scanL bn pages)) j7 f c8 c9 c10 c11 c12 c13) = .ok (.int bn)) (ej : fj (lawS ns ds k root bn (.obj true .lst (scanL bn pages)) j7 f c8 c9 c10 c11 c12 c13) = .ok (.int j)) :
    mPut2 5 f1 fj fv (lawS ns ds k root bn (.obj true .lst (scanL bn pages)) j7 f c8 c9 c10 c11 c12 c13) = .nx (lawS ns ds k root bn (.obj true .lst (scanL bn (pages.set j d))) j7 f c8 c9 c10 c11 c12 c13) := by
  rw [mPut2_ev (i := 5) rfl e e1 ej (scan_get hb) hj, scan_set]
  rfl
theorem other_isF (s : Int) : (otherD s).isF = true := rfl
theorem pages_step {ns ds : List Int} {k : Nat} {bn j f : Nat} {pages : List D} {j7 c9 c10 c11 c12 c13 : Option D} {dk : Int} (hb : bn < 24) (hj : j < 4) (ok : RootOk s J P m B) (hd : atI (ds.map D.int) (32 + (k : Int)) = some (.int dk)) (hp : Pgs s (hit s J P m B) f pages) :
    ∃ pages' c, Pgs s (hit s J P m B) f pages' ∧ L_law_2 (lawS ns ds k (rootD s J P m B) bn (.obj true .lst (scanL bn pages)) j7 (some (.int f)) (some (.int j)) c9 c10 c11 c12 c13) = .nx (lawS ns ds k (rootD s J P m B) bn (.obj true .lst (scanL bn pages')) j7 (some (.int f)) (some (.int j)) c9 c10 c11 c c13) := by
  have p2 : (0 : Int) < 2 := by omega
  have q96 : (0 : Int) < 96 ∧ (96 : Int) < 1073741824 := by omega
  have q192 : (0 : Int) < 192 ∧ (192 : Int) < 1073741824 := by omega
  have s1 := ok.s1
  have s2 := ok.s2
  have hl := hp.len
  have i1 : ∀ c : Option D, ∃ pages', Pgs s (hit s J P m B) f pages' ∧ I_law_1 (lawS ns ds k (rootD s J P m B) bn (.obj true .lst (scanL bn pages)) j7 (some (.int f)) (some (.int j)) c9 c10 c11 (some (otherD (s + 1 + (j : Int)))) c13) = .nx (lawS ns ds k (rootD s J P m B) bn (.obj true .lst (scanL bn pages')) j7 (some (.int f)) (some (.int j)) c9 c10 c11 (some (otherD (s + 1 + (j : Int)))) c13) := fun c => by
    unfold I_law_1
    simp -implicitDefEqProofs only [mSeq_ev, sq_nx, sq_rt, sq_bk, sq_ct, sq_ite, of_ok, mSkip_ev, mSetN_ev, mRet_ev, mIf_ev, mFor_ev, mBk_ev, mCt_ev, eB2_ev, eU_ev, eC_ev, aNil_ev, aCons_ev, eCall_ev, eTup_ev, eLst_ev, eSl_ev, oNo_ev, oSo_ev, bOf_ev, bAnd_ev, bOr_ev, bNot_ev, asB_bl, get_mk, set_mk, gV, cI, cS, cB, cN, eF, eFz, iL, iP, iT, i1, i2, iEn, aN, eIsN, eNotN, R.bind_ok, R.map_ok, R.of_some, List.set_cons_zero, List.set_cons_succ, List.getElem?_cons_zero, List.getElem?_cons_succ, List.length_cons, List.length_nil, D.isF, isFL, if_true, if_false, Bool.false_eq_true, Bool.not_true, Bool.not_false, Bool.and_true, Bool.true_and, Bool.and_false, Bool.false_and, bName, bTup, setAll, Nat.zero_add, Nat.reduceAdd, Nat.reduceLeDiff, Nat.reduceEqDiff, List.map_cons, List.map_nil, Option.map_some, Option.bind_some, dLt_int, addI_int, dIx_lst, hd, dDiv_p q96, dMod_p p2, dInt_int, dEq_int]
    by_cases h1 : (j : Int) < (f : Int)
    · cases h2 : (dk / 96 % 2 == 0) with
      | true =>
        refine ⟨pages.set j (.tup [.str "right", otherD (s + 1 + (j : Int))]), hp.low (by omega) (missO (by omega)) (oth_ok (by omega) (by omega)), ?_⟩
        simp -implicitDefEqProofs only [mSeq_ev, sq_nx, sq_rt, sq_bk, sq_ct, sq_ite, of_ok, mSkip_ev, mSetN_ev, mRet_ev, mIf_ev, mFor_ev, mBk_ev, mCt_ev, eB2_ev, eU_ev, eC_ev, aNil_ev, aCons_ev, eCall_ev, eTup_ev, eLst_ev, eSl_ev, oNo_ev, oSo_ev, bOf_ev, bAnd_ev, bOr_ev, bNot_ev, asB_bl, get_mk, set_mk, gV, cI, cS, cB, cN, eF, eFz, iL, iP, iT, i1, i2, iEn, aN, eIsN, eNotN, R.bind_ok, R.map_ok, R.of_some, List.set_cons_zero, List.set_cons_succ, List.getElem?_cons_zero, List.getElem?_cons_succ, List.length_cons, List.length_nil, D.isF, isFL, if_true, if_false, Bool.false_eq_true, Bool.not_true, Bool.not_false, Bool.and_true, Bool.true_and, Bool.and_false, Bool.false_and, bName, bTup, setAll, Nat.zero_add, Nat.reduceAdd, Nat.reduceLeDiff, Nat.reduceEqDiff, List.map_cons, List.map_nil, Option.map_some, Option.bind_some, decide_eq_true h1, h2]
        refine put_ev hb (by omega) ?_ ?_ ?_
        · simp -implicitDefEqProofs only [mSeq_ev, sq_nx, sq_rt, sq_bk, sq_ct, sq_ite, of_ok, mSkip_ev, mSetN_ev, mRet_ev, mIf_ev, mFor_ev, mBk_ev, mCt_ev, eB2_ev, eU_ev, eC_ev, aNil_ev, aCons_ev, eCall_ev, eTup_ev, eLst_ev, eSl_ev, oNo_ev, oSo_ev, bOf_ev, bAnd_ev, bOr_ev, bNot_ev, asB_bl, get_mk, set_mk, gV, cI, cS, cB, cN, eF, eFz, iL, iP, iT, i1, i2, iEn, aN, eIsN, eNotN, R.bind_ok, R.map_ok, R.of_some, List.set_cons_zero, List.set_cons_succ, List.getElem?_cons_zero, List.getElem?_cons_succ, List.length_cons, List.length_nil, D.isF, isFL, if_true, if_false, Bool.false_eq_true, Bool.not_true, Bool.not_false, Bool.and_true, Bool.true_and, Bool.and_false, Bool.false_and, bName, bTup, setAll, Nat.zero_add, Nat.reduceAdd, Nat.reduceLeDiff, Nat.reduceEqDiff, List.map_cons, List.map_nil, Option.map_some, Option.bind_some, other_isF]
        · simp -implicitDefEqProofs only [mSeq_ev, sq_nx, sq_rt, sq_bk, sq_ct, sq_ite, of_ok, mSkip_ev, mSetN_ev, mRet_ev, mIf_ev, mFor_ev, mBk_ev, mCt_ev, eB2_ev, eU_ev, eC_ev, aNil_ev, aCons_ev, eCall_ev, eTup_ev, eLst_ev, eSl_ev, oNo_ev, oSo_ev, bOf_ev, bAnd_ev, bOr_ev, bNot_ev, asB_bl, get_mk, set_mk, gV, cI, cS, cB, cN, eF, eFz, iL, iP, iT, i1, i2, iEn, aN, eIsN, eNotN, R.bind_ok, R.map_ok, R.of_some, List.set_cons_zero, List.set_cons_succ, List.getElem?_cons_zero, List.getElem?_cons_succ, List.length_cons, List.length_nil, D.isF, isFL, if_true, if_false, Bool.false_eq_true, Bool.not_true, Bool.not_false, Bool.and_true, Bool.true_and, Bool.and_false, Bool.false_and, bName, bTup, setAll, Nat.zero_add, Nat.reduceAdd, Nat.reduceLeDiff, Nat.reduceEqDiff, List.map_cons, List.map_nil, Option.map_some, Option.bind_some]
        · simp -implicitDefEqProofs only [mSeq_ev, sq_nx, sq_rt, sq_bk, sq_ct, sq_ite, of_ok, mSkip_ev, mSetN_ev, mRet_ev, mIf_ev, mFor_ev, mBk_ev, mCt_ev, eB2_ev, eU_ev, eC_ev, aNil_ev, aCons_ev, eCall_ev, eTup_ev, eLst_ev, eSl_ev, oNo_ev, oSo_ev, bOf_ev, bAnd_ev, bOr_ev, bNot_ev, asB_bl, get_mk, set_mk, gV, cI, cS, cB, cN, eF, eFz, iL, iP, iT, i1, i2, iEn, aN, eIsN, eNotN, R.bind_ok, R.map_ok, R.of_some, List.set_cons_zero, List.set_cons_succ, List.getElem?_cons_zero, List.getElem?_cons_succ, List.length_cons, List.length_nil, D.isF, isFL, if_true, if_false, Bool.false_eq_true, Bool.not_true, Bool.not_false, Bool.and_true, Bool.true_and, Bool.and_false, Bool.false_and, bName, bTup, setAll, Nat.zero_add, Nat.reduceAdd, Nat.reduceLeDiff, Nat.reduceEqDiff, List.map_cons, List.map_nil, Option.map_some, Option.bind_some]
      | false => exact ⟨pages, hp, by simp -implicitDefEqProofs only [mSeq_ev, sq_nx, sq_rt, sq_bk, sq_ct, sq_ite, of_ok, mSkip_ev, mSetN_ev, mRet_ev, mIf_ev, mFor_ev, mBk_ev, mCt_ev, eB2_ev, eU_ev, eC_ev, aNil_ev, aCons_ev, eCall_ev, eTup_ev, eLst_ev, eSl_ev, oNo_ev, oSo_ev, bOf_ev, bAnd_ev, bOr_ev, bNot_ev, asB_bl, get_mk, set_mk, gV, cI, cS, cB, cN, eF, eFz, iL, iP, iT, i1, i2, iEn, aN, eIsN, eNotN, R.bind_ok, R.map_ok, R.of_some, List.set_cons_zero, List.set_cons_succ, List.getElem?_cons_zero, List.getElem?_cons_succ, List.length_cons, List.length_nil, D.isF, isFL, if_true, if_false, Bool.false_eq_true, Bool.not_true, Bool.not_false, Bool.and_true, Bool.true_and, Bool.and_false, Bool.false_and, bName, bTup, setAll, Nat.zero_add, Nat.reduceAdd, Nat.reduceLeDiff, Nat.reduceEqDiff, List.map_cons, List.map_nil, Option.map_some, Option.bind_some, decide_eq_true h1, h2]⟩
    · exact ⟨pages, hp, by simp -implicitDefEqProofs only [mSeq_ev, sq_nx, sq_rt, sq_bk, sq_ct, sq_ite, of_ok, mSkip_ev, mSetN_ev, mRet_ev, mIf_ev, mFor_ev, mBk_ev, mCt_ev, eB2_ev, eU_ev, eC_ev, aNil_ev, aCons_ev, eCall_ev, eTup_ev, eLst_ev, eSl_ev, oNo_ev, oSo_ev, bOf_ev, bAnd_ev, bOr_ev, bNot_ev, asB_bl, get_mk, set_mk, gV, cI, cS, cB, cN, eF, eFz, iL, iP, iT, i1, i2, iEn, aN, eIsN, eNotN, R.bind_ok, R.map_ok, R.of_some, List.set_cons_zero, List.set_cons_succ, List.getElem?_cons_zero, List.getElem?_cons_succ, List.length_cons, List.length_nil, D.isF, isFL, if_true, if_false, Bool.false_eq_true, Bool.not_true, Bool.not_false, Bool.and_true, Bool.true_and, Bool.and_false, Bool.false_and, bName, bTup, setAll, Nat.zero_add, Nat.reduceAdd, Nat.reduceLeDiff, Nat.reduceEqDiff, List.map_cons, List.map_nil, Option.map_some, Option.bind_some, decide_eq_false h1]⟩
  obtain ⟨pages1, hp1, e1⟩ := i1 none
  have hl1 := hp1.len
  have i2 : ∃ pages', Pgs s (hit s J P m B) f pages' ∧ I_law_2 (lawS ns ds k (rootD s J P m B) bn (.obj true .lst (scanL bn pages1)) j7 (some (.int f)) (some (.int j)) c9 c10 c11 (some (otherD (s + 1 + (j : Int)))) c13) = .nx (lawS ns ds k (rootD s J P m B) bn (.obj true .lst (scanL bn pages')) j7 (some (.int f)) (some (.int j)) c9 c10 c11 (some (otherD (s + 1 + (j : Int)))) c13) := by
    unfold I_law_2
    simp -implicitDefEqProofs only [mSeq_ev, sq_nx, sq_rt, sq_bk, sq_ct, sq_ite, of_ok, mSkip_ev, mSetN_ev, mRet_ev, mIf_ev, mFor_ev, mBk_ev, mCt_ev, eB2_ev, eU_ev, eC_ev, aNil_ev, aCons_ev, eCall_ev, eTup_ev, eLst_ev, eSl_ev, oNo_ev, oSo_ev, bOf_ev, bAnd_ev, bOr_ev, bNot_ev, asB_bl, get_mk, set_mk, gV, cI, cS, cB, cN, eF, eFz, iL, iP, iT, i1, i2, iEn, aN, eIsN, eNotN, R.bind_ok, R.map_ok, R.of_some, List.set_cons_zero, List.set_cons_succ, List.getElem?_cons_zero, List.getElem?_cons_succ, List.length_cons, List.length_nil, D.isF, isFL, if_true, if_false, Bool.false_eq_true, Bool.not_true, Bool.not_false, Bool.and_true, Bool.true_and, Bool.and_false, Bool.false_and, bName, bTup, setAll, Nat.zero_add, Nat.reduceAdd, Nat.reduceLeDiff, Nat.reduceEqDiff, List.map_cons, List.map_nil, Option.map_some, Option.bind_some, dGt_int, addI_int, dIx_lst, hd, dDiv_p q192, dMod_p p2, dInt_int, dEq_int]
    by_cases h1 : (f : Int) < (j : Int)
    · cases h2 : (dk / 192 % 2 == 0) with
      | true =>
        refine ⟨pages1.set j (hit s J P m B), hp1.high (by omega) (hit_ok ok), ?_⟩
        simp -implicitDefEqProofs only [mSeq_ev, sq_nx, sq_rt, sq_bk, sq_ct, sq_ite, of_ok, mSkip_ev, mSetN_ev, mRet_ev, mIf_ev, mFor_ev, mBk_ev, mCt_ev, eB2_ev, eU_ev, eC_ev, aNil_ev, aCons_ev, eCall_ev, eTup_ev, eLst_ev, eSl_ev, oNo_ev, oSo_ev, bOf_ev, bAnd_ev, bOr_ev, bNot_ev, asB_bl, get_mk, set_mk, gV, cI, cS, cB, cN, eF, eFz, iL, iP, iT, i1, i2, iEn, aN, eIsN, eNotN, R.bind_ok, R.map_ok, R.of_some, List.set_cons_zero, List.set_cons_succ, List.getElem?_cons_zero, List.getElem?_cons_succ, List.length_cons, List.length_nil, D.isF, isFL, if_true, if_false, Bool.false_eq_true, Bool.not_true, Bool.not_false, Bool.and_true, Bool.true_and, Bool.and_false, Bool.false_and, bName, bTup, setAll, Nat.zero_add, Nat.reduceAdd, Nat.reduceLeDiff, Nat.reduceEqDiff, List.map_cons, List.map_nil, Option.map_some, Option.bind_some, decide_eq_true h1, h2]
        refine put_ev hb (by omega) ?_ ?_ ?_
        · simp -implicitDefEqProofs only [mSeq_ev, sq_nx, sq_rt, sq_bk, sq_ct, sq_ite, of_ok, mSkip_ev, mSetN_ev, mRet_ev, mIf_ev, mFor_ev, mBk_ev, mCt_ev, eB2_ev, eU_ev, eC_ev, aNil_ev, aCons_ev, eCall_ev, eTup_ev, eLst_ev, eSl_ev, oNo_ev, oSo_ev, bOf_ev, bAnd_ev, bOr_ev, bNot_ev, asB_bl, get_mk, set_mk, gV, cI, cS, cB, cN, eF, eFz, iL, iP, iT, i1, i2, iEn, aN, eIsN, eNotN, R.bind_ok, R.map_ok, R.of_some, List.set_cons_zero, List.set_cons_succ, List.getElem?_cons_zero, List.getElem?_cons_succ, List.length_cons, List.length_nil, D.isF, isFL, if_true, if_false, Bool.false_eq_true, Bool.not_true, Bool.not_false, Bool.and_true, Bool.true_and, Bool.and_false, Bool.false_and, bName, bTup, setAll, Nat.zero_add, Nat.reduceAdd, Nat.reduceLeDiff, Nat.reduceEqDiff, List.map_cons, List.map_nil, Option.map_some, Option.bind_some, root_isF, hit]
        · simp -implicitDefEqProofs only [mSeq_ev, sq_nx, sq_rt, sq_bk, sq_ct, sq_ite, of_ok, mSkip_ev, mSetN_ev, mRet_ev, mIf_ev, mFor_ev, mBk_ev, mCt_ev, eB2_ev, eU_ev, eC_ev, aNil_ev, aCons_ev, eCall_ev, eTup_ev, eLst_ev, eSl_ev, oNo_ev, oSo_ev, bOf_ev, bAnd_ev, bOr_ev, bNot_ev, asB_bl, get_mk, set_mk, gV, cI, cS, cB, cN, eF, eFz, iL, iP, iT, i1, i2, iEn, aN, eIsN, eNotN, R.bind_ok, R.map_ok, R.of_some, List.set_cons_zero, List.set_cons_succ, List.getElem?_cons_zero, List.getElem?_cons_succ, List.length_cons, List.length_nil, D.isF, isFL, if_true, if_false, Bool.false_eq_true, Bool.not_true, Bool.not_false, Bool.and_true, Bool.true_and, Bool.and_false, Bool.false_and, bName, bTup, setAll, Nat.zero_add, Nat.reduceAdd, Nat.reduceLeDiff, Nat.reduceEqDiff, List.map_cons, List.map_nil, Option.map_some, Option.bind_some]
        · simp -implicitDefEqProofs only [mSeq_ev, sq_nx, sq_rt, sq_bk, sq_ct, sq_ite, of_ok, mSkip_ev, mSetN_ev, mRet_ev, mIf_ev, mFor_ev, mBk_ev, mCt_ev, eB2_ev, eU_ev, eC_ev, aNil_ev, aCons_ev, eCall_ev, eTup_ev, eLst_ev, eSl_ev, oNo_ev, oSo_ev, bOf_ev, bAnd_ev, bOr_ev, bNot_ev, asB_bl, get_mk, set_mk, gV, cI, cS, cB, cN, eF, eFz, iL, iP, iT, i1, i2, iEn, aN, eIsN, eNotN, R.bind_ok, R.map_ok, R.of_some, List.set_cons_zero, List.set_cons_succ, List.getElem?_cons_zero, List.getElem?_cons_succ, List.length_cons, List.length_nil, D.isF, isFL, if_true, if_false, Bool.false_eq_true, Bool.not_true, Bool.not_false, Bool.and_true, Bool.true_and, Bool.and_false, Bool.false_and, bName, bTup, setAll, Nat.zero_add, Nat.reduceAdd, Nat.reduceLeDiff, Nat.reduceEqDiff, List.map_cons, List.map_nil, Option.map_some, Option.bind_some]
      | false => exact ⟨pages1, hp1, by simp -implicitDefEqProofs only [mSeq_ev, sq_nx, sq_rt, sq_bk, sq_ct, sq_ite, of_ok, mSkip_ev, mSetN_ev, mRet_ev, mIf_ev, mFor_ev, mBk_ev, mCt_ev, eB2_ev, eU_ev, eC_ev, aNil_ev, aCons_ev, eCall_ev, eTup_ev, eLst_ev, eSl_ev, oNo_ev, oSo_ev, bOf_ev, bAnd_ev, bOr_ev, bNot_ev, asB_bl, get_mk, set_mk, gV, cI, cS, cB, cN, eF, eFz, iL, iP, iT, i1, i2, iEn, aN, eIsN, eNotN, R.bind_ok, R.map_ok, R.of_some, List.set_cons_zero, List.set_cons_succ, List.getElem?_cons_zero, List.getElem?_cons_succ, List.length_cons, List.length_nil, D.isF, isFL, if_true, if_false, Bool.false_eq_true, Bool.not_true, Bool.not_false, Bool.and_true, Bool.true_and, Bool.and_false, Bool.false_and, bName, bTup, setAll, Nat.zero_add, Nat.reduceAdd, Nat.reduceLeDiff, Nat.reduceEqDiff, List.map_cons, List.map_nil, Option.map_some, Option.bind_some, decide_eq_true h1, h2]⟩
    · exact ⟨pages1, hp1, by simp -implicitDefEqProofs only [mSeq_ev, sq_nx, sq_rt, sq_bk, sq_ct, sq_ite, of_ok, mSkip_ev, mSetN_ev, mRet_ev, mIf_ev, mFor_ev, mBk_ev, mCt_ev, eB2_ev, eU_ev, eC_ev, aNil_ev, aCons_ev, eCall_ev, eTup_ev, eLst_ev, eSl_ev, oNo_ev, oSo_ev, bOf_ev, bAnd_ev, bOr_ev, bNot_ev, asB_bl, get_mk, set_mk, gV, cI, cS, cB, cN, eF, eFz, iL, iP, iT, i1, i2, iEn, aN, eIsN, eNotN, R.bind_ok, R.map_ok, R.of_some, List.set_cons_zero, List.set_cons_succ, List.getElem?_cons_zero, List.getElem?_cons_succ, List.length_cons, List.length_nil, D.isF, isFL, if_true, if_false, Bool.false_eq_true, Bool.not_true, Bool.not_false, Bool.and_true, Bool.true_and, Bool.and_false, Bool.false_and, bName, bTup, setAll, Nat.zero_add, Nat.reduceAdd, Nat.reduceLeDiff, Nat.reduceEqDiff, List.map_cons, List.map_nil, Option.map_some, Option.bind_some, decide_eq_false h1]⟩
  obtain ⟨pages2, hp2, e2⟩ := i2
  refine ⟨pages2, some (otherD (s + 1 + (j : Int))), hp2, ?_⟩
  unfold L_law_2
  rw [mSeq_ev, mSetN_ev]
  simp -implicitDefEqProofs only [mSeq_ev, sq_nx, sq_rt, sq_bk, sq_ct, sq_ite, of_ok, mSkip_ev, mSetN_ev, mRet_ev, mIf_ev, mFor_ev, mBk_ev, mCt_ev, eB2_ev, eU_ev, eC_ev, aNil_ev, aCons_ev, eCall_ev, eTup_ev, eLst_ev, eSl_ev, oNo_ev, oSo_ev, bOf_ev, bAnd_ev, bOr_ev, bNot_ev, asB_bl, get_mk, set_mk, gV, cI, cS, cB, cN, eF, eFz, iL, iP, iT, i1, i2, iEn, aN, eIsN, eNotN, R.bind_ok, R.map_ok, R.of_some, List.set_cons_zero, List.set_cons_succ, List.getElem?_cons_zero, List.getElem?_cons_succ, List.length_cons, List.length_nil, D.isF, isFL, if_true, if_false, Bool.false_eq_true, Bool.not_true, Bool.not_false, Bool.and_true, Bool.true_and, Bool.and_false, Bool.false_and, bName, bTup, setAll, Nat.zero_add, Nat.reduceAdd, Nat.reduceLeDiff, Nat.reduceEqDiff, List.map_cons, List.map_nil, Option.map_some, Option.bind_some, ix1, addI_int]
  have e1' : I_law_1 ⟨[some (.obj false .rol (ns.map .int)), some (.obj true .lst (ds.map .int)), some (.int (k : Int)), some (rootD s J P m B), some (.int (bn : Int)), some (.obj true .lst (scanL bn pages)), j7, some (.int (f : Int)), some (.int (j : Int)), c9, c10, c11, some (.tup [.str "root", .int (s + 1 + (j : Int)), .int 7, .non, .tup [], .tup [], .tup [], .tup []]), c13], []⟩ = _ := e1
  rw [e1', sq_nx]
  exact e2
end
end K81

set_option Elab.async false
set_option linter.all false
set_option maxRecDepth 100000
set_option maxHeartbeats 4000000
namespace K81
open PySem L2 Tm
theorem mSeq_nx {f g : SM} {ρ ρ' : S} (h : f ρ = .nx ρ') : mSeq f g ρ = g ρ' := by rw [mSeq_ev, h, sq_nx]
theorem frzL_map : ∀ xs : List D, frzL xs = xs.map D.frz
  | [] => rfl
  | x :: r => by rw [frzL, List.map_cons, frzL_map r]
abbrev scanF (bn : Nat) (pages : List D) : List D := (List.replicate 24 (.obj false .lst blanks)).set bn (.obj false .lst pages)
theorem scan_frz {bn : Nat} {pages : List D} (h : ∀ y ∈ pages, PgOk y) : frzL (scanL bn pages) = scanF bn pages := by
  have e1 : D.frz row0 = .obj false .lst blanks := rfl
  have e2 : D.frz (.obj true .lst pages) = .obj false .lst pages := by rw [frz_obj, frzL_id (isFL_of fun y m => (h y m).1)]
  rw [frzL_map]
  unfold scanL scanF
  rw [List.map_set, List.map_replicate, e1, e2]
theorem row_ok {pages : List D} (h : ∀ y ∈ pages, PgOk y) (hl : pages.length = 4) : Okd 48100 4 (.obj false .lst pages) :=
  (Okd.lst (n := 12000) (k := 3) (.inl rfl) fun y m => (h y m).2).mono (by rw [hl]; decide) (by decide)
theorem scan_ok {bn : Nat} {pages : List D} (h : ∀ y ∈ pages, PgOk y) (hl : pages.length = 4) : Okd 1200000 5 (.obj false .lst (scanF bn pages)) ∧ isFL (scanF bn pages) = true := by
  have al : ∀ y ∈ scanF bn pages, Okd 48100 4 y ∧ y.isF = true := fun y m => by
    rcases List.mem_or_eq_of_mem_set m with m | rfl
    · rw [List.eq_of_mem_replicate m]
      exact ⟨row_ok blanks_ok rfl, rfl⟩
    · exact ⟨row_ok h hl, by simp -implicitDefEqProofs only [D.isF, Bool.not_false, Bool.true_and]; exact isFL_of fun y m => (h y m).1⟩
  refine ⟨(Okd.lst (n := 48100) (k := 4) (.inl rfl) fun y m => (al y m).1).mono ?_ (by decide), isFL_of fun y m => (al y m).2⟩
  unfold scanF
  rw [List.length_set, List.length_replicate]
  decide
theorem words_mem {P : List (Option Int)} {J B : List Int} {m : Nat} {b : Int} {w : Str} (h : w ∈ words P J B m b) : w ∈ (["blank", "damaged", "right", "mark", "root", "map length", "erases length", "block number", "map twice", "anchor mapped", "journal"] : List Str) := by
  have wm : ∀ {c : Bool} {v : Str}, w ∈ wd c v → w = v := fun {c v} h => by
    cases c
    · cases h
    · exact List.mem_singleton.mp h
  unfold words at h
  simp only [List.mem_append] at h
  rcases h with ((((h | h) | h) | h) | h) | h <;> rw [wm h] <;> decide
theorem words_len (P : List (Option Int)) (J B : List Int) (m : Nat) (b : Int) : (words P J B m b).length ≤ 6 := by
  unfold words
  simp only [List.length_append]
  have a1 := wd_le (!((P.length : Int) == 24)) "map length"
  have a2 := wd_le (!((m : Int) == 24)) "erases length"
  have a3 := wd_le ((mp P ++ J ++ B).any fun x => decide (24 ≤ x)) "block number"
  have a4 := wd_le (!decide (mp P).Nodup) "map twice"
  have a5 := wd_le (decide (b ∈ mp P)) "anchor mapped"
  have a6 := wd_le (jw P J) "journal"
  omega
theorem due_ok {bn f : Nat} {P : List (Option Int)} {J B : List Int} {m : Nat} (hb : bn < 24) (hf : f < 4) : Okd 1000 2 (dueD bn f (words P J B m bn)) := by
  unfold dueD
  refine (Okd.lst (n := 70) (k := 1) (.inl rfl) fun y h => ?_).mono (by rw [List.length_map]; have := words_len P J B m bn; omega) (by decide)
  obtain ⟨w, hw, rfl⟩ := List.mem_map.mp h
  refine (Okd.tup (n := 20) (k := 0) fun y h => ?_).mono (Nat.le_of_ble_eq_true rfl) (by decide)
  simp only [List.mem_cons, List.not_mem_nil, or_false] at h
  rcases h with rfl | rfl | rfl
  · exact (Okd.int (by omega) (by omega)).mono (by decide) (by decide)
  · exact (Okd.int (by omega) (by omega)).mono (by decide) (by decide)
  · exact okW (words_mem hw)
theorem cut4 {ds : List Int} {k : Nat} (hl : ds.length = 40) (h0 : ∀ d ∈ ds, 0 ≤ d) (hk : k < 8) : ∃ q0 q1 q2 q3 : Int, 0 ≤ q0 ∧ 0 ≤ q1 ∧ 0 ≤ q2 ∧ 0 ≤ q3 ∧ slL (.obj true .lst (ds.map .int)) (some (4 * (k : Int))) (some (4 * (k : Int) + 4)) = some (.obj true .lst [.int q0, .int q1, .int q2, .int q3]) := by
  have e1 : HT.sIx (ds.map D.int).length 0 (some (4 * (k : Int))) = 4 * k := by
    have : 4 * (k : Int) = ((4 * k : Nat) : Int) := by omega
    rw [this, HT.sIx_nat, List.length_map]
    omega
  have e2 : HT.sIx (ds.map D.int).length (ds.map D.int).length (some (4 * (k : Int) + 4)) = 4 * k + 4 := by
    have : 4 * (k : Int) + 4 = ((4 * k + 4 : Nat) : Int) := by omega
    rw [this, HT.sIx_nat, List.length_map]
    omega
  have e3 : 4 * k + 4 - 4 * k = 4 := by omega
  have cut : ∃ q : List Int, (ds.drop (4 * k)).take 4 = q ∧ q.length = 4 ∧ ∀ d ∈ q, 0 ≤ d := ⟨_, rfl, by rw [List.length_take, List.length_drop]; omega, fun d m => h0 d (List.mem_of_mem_drop (List.mem_of_mem_take m))⟩
  obtain ⟨q, eq, ql, qn⟩ := cut
  match q, ql with
  | [q0, q1, q2, q3], _ =>
    refine ⟨q0, q1, q2, q3, qn _ (by simp), qn _ (by simp), qn _ (by simp), qn _ (by simp), ?_⟩
    simp -implicitDefEqProofs only [slL, isFL_ints, if_true, e1, e2, e3, ← List.map_drop, ← List.map_take, eq, List.map_cons, List.map_nil]
section
variable {s : Int} {J B : List Int} {P : List (Option Int)} {m : Nat}
theorem scan_loop {ns ds : List Int} {k : Int} {root : D} {b : Int} {c6 c7 c8 c9 c10 c11 c12 c13 : Option D} : ∃ j, forL (bName 6) L_law_1 (rngL 0 24) (lawS ns ds k root b (.obj true .lst []) c6 c7 c8 c9 c10 c11 c12 c13) = .nx (lawS ns ds k root b (.obj true .lst (List.replicate 24 row0)) j c7 c8 c9 c10 c11 c12 c13) := by
  obtain ⟨ρ', e, j, rfl⟩ := forL_inv (bt := bName 6) (body := L_law_1) (fun i ρ => ∃ j, ρ = lawS ns ds k root b (.obj true .lst (List.replicate i row0)) j c7 c8 c9 c10 c11 c12 c13) (xs := rngL 0 24) (ρ := lawS ns ds k root b (.obj true .lst []) c6 c7 c8 c9 c10 c11 c12 c13) (by
    rintro i x ρ hx ⟨j, rfl⟩
    obtain ⟨rfl, hi⟩ := rng_get hx
    refine ⟨_, _, rfl, .inl (?_ : _ = Out.nx (lawS ns ds k root b (.obj true .lst (List.replicate (i + 1) row0)) (some (.int (0 + (i : Int)))) c7 c8 c9 c10 c11 c12 c13)), _, rfl⟩
    unfold L_law_1
    rw [mApp_ev (i := 5) (xs := List.replicate i row0) rfl (by rw [List.length_replicate]; omega), List.replicate_succ']
    simp -implicitDefEqProofs only [mSeq_ev, sq_nx, sq_rt, sq_bk, sq_ct, sq_ite, of_ok, mSkip_ev, mSetN_ev, mRet_ev, mIf_ev, mFor_ev, mBk_ev, mCt_ev, eB2_ev, eU_ev, eC_ev, aNil_ev, aCons_ev, eCall_ev, eTup_ev, eLst_ev, eSl_ev, oNo_ev, oSo_ev, bOf_ev, bAnd_ev, bOr_ev, bNot_ev, asB_bl, get_mk, set_mk, gV, cI, cS, cB, cN, eF, eFz, iL, iP, iT, i1, i2, iEn, aN, eIsN, eNotN, R.bind_ok, R.map_ok, R.of_some, List.set_cons_zero, List.set_cons_succ, List.getElem?_cons_zero, List.getElem?_cons_succ, List.length_cons, List.length_nil, D.isF, isFL, if_true, if_false, Bool.false_eq_true, Bool.not_true, Bool.not_false, Bool.and_true, Bool.true_and, Bool.and_false, Bool.false_and, bName, bTup, setAll, Nat.zero_add, Nat.reduceAdd, Nat.reduceLeDiff, Nat.reduceEqDiff, List.map_cons, List.map_nil, Option.map_some, Option.bind_some]
    rfl) ⟨c6, rfl⟩
  rw [rng_len] at e
  exact ⟨j, e⟩
theorem page_loop {ns ds : List Int} {k bn f : Nat} {pages : List D} {j7 c8 c9 c10 c11 c12 c13 : Option D} {dk : Int} (hb : bn < 24) (ok : RootOk s J P m B) (hd : atI (ds.map D.int) (32 + (k : Int)) = some (.int dk)) (hp : Pgs s (hit s J P m B) f pages) :
    ∃ pages' c8' c12', Pgs s (hit s J P m B) f pages' ∧ forL (bName 8) L_law_2 (rngL 0 4) (lawS ns ds k (rootD s J P m B) bn (.obj true .lst (scanL bn pages)) j7 (some (.int f)) c8 c9 c10 c11 c12 c13) = .nx (lawS ns ds k (rootD s J P m B) bn (.obj true .lst (scanL bn pages')) j7 (some (.int f)) c8' c9 c10 c11 c12' c13) := by
  obtain ⟨ρ', e, pages', c8', c12', rfl, hp'⟩ := forL_inv (bt := bName 8) (body := L_law_2) (fun i ρ => ∃ pages c8 c12, ρ = lawS ns ds k (rootD s J P m B) bn (.obj true .lst (scanL bn pages)) j7 (some (.int f)) c8 c9 c10 c11 c12 c13 ∧ Pgs s (hit s J P m B) f pages) (xs := rngL 0 4) (ρ := lawS ns ds k (rootD s J P m B) bn (.obj true .lst (scanL bn pages)) j7 (some (.int f)) c8 c9 c10 c11 c12 c13) (by
    rintro i x ρ hx ⟨pages, c8, c12, rfl, hp⟩
    obtain ⟨rfl, hi⟩ := rng_get hx
    rw [Int.zero_add]
    obtain ⟨pages', c, hp', e⟩ := pages_step (ns := ns) (j7 := j7) (c9 := c9) (c10 := c10) (c11 := c11) (c12 := c12) (c13 := c13) hb hi ok hd hp
    exact ⟨_, _, rfl, .inl e, pages', _, _, rfl, hp'⟩) ⟨pages, c8, c12, rfl, hp⟩
  exact ⟨pages', c8', c12', hp', e⟩
theorem step3 {ns ds : List Int} {k : Nat} (hl : ds.length = 40) (h0 : ∀ d ∈ ds, 0 ≤ d) (hk : k < 8) (c3 c4 c5 c6 c7 c8 c9 c10 c11 c12 c13 : Option D) : ∃ e3 e4 e5 e6 e7 e8 e9 e10 e11 e12 e13 : Option D,
    L_law_3 ⟨[some (.obj false .rol (ns.map .int)), some (.obj true .lst (ds.map .int)), some (.int k), c3, c4, c5, c6, c7, c8, c9, c10, c11, c12, c13], []⟩ = .nx ⟨[some (.obj false .rol (ns.map .int)), some (.obj true .lst (ds.map .int)), some (.int k), e3, e4, e5, e6, e7, e8, e9, e10, e11, e12, e13], []⟩ := by
  obtain ⟨q0, q1, q2, q3, a0, a1, a2, a3, eq⟩ := cut4 hl h0 hk
  obtain ⟨s, J, P, m, B, ok, er⟩ := root_ok a0 a1 a2 a3
  have hi : 32 + k < ds.length := by omega
  have hd : atI (ds.map D.int) (32 + (k : Int)) = some (.int ds[32 + k]) := by
    have e : 32 + (k : Int) = ((32 + k : Nat) : Int) := by omega
    rw [e]
    exact at_ints (List.getElem?_eq_getElem hi)
  have dn := h0 _ (List.getElem_mem hi)
  generalize ds[32 + k] = dk at hd dn
  have p24 : (0 : Int) < 24 := by omega
  have p4 : (0 : Int) < 4 := by omega
  have q24 : (0 : Int) < 24 ∧ (24 : Int) < 1073741824 := by omega
  obtain ⟨bn, hbn⟩ := Int.eq_ofNat_of_zero_le (mod_nn (a := dk) p24)
  have hb : bn < 24 := by have := Int.emod_lt_of_pos dk p24; omega
  obtain ⟨f, hf⟩ := Int.eq_ofNat_of_zero_le (mod_nn (a := dk / 24) p4)
  have hf4 : f < 4 := by have := Int.emod_lt_of_pos (dk / 24) p4; omega
  have mK : ∀ x : Int, dMul (.int 4) (.int x) = some (.int (4 * x)) := fun x => dMul_l (inR_of (by omega) (by omega))
  obtain ⟨j6, lp⟩ := scan_loop (ns := ns) (ds := ds) (k := k) (root := rootD s J P m B) (b := bn) (c6 := c6) (c7 := c7) (c8 := c8) (c9 := c9) (c10 := c10) (c11 := c11) (c12 := c12) (c13 := c13)
  obtain ⟨pages, c8', c12', hp, lq⟩ := page_loop (ns := ns) (j7 := j6) (c8 := c8) (c9 := c9) (c10 := c10) (c11 := c11) (c12 := c12) (c13 := c13) hb ok hd (Pgs.start (s := s) hf4 (hit_ok ok))
  have it24 : it1 [.int 24] = .ok (rngL 0 24) := it1_nat (n := 24) (by decide)
  have it4 : it1 [.int 4] = .ok (rngL 0 4) := it1_nat (n := 4) (by decide)
  have it24' : it1 [.int 24] = .ok (rngL 0 24) := it24
  have lw := lwords_ok (b := bn) ok
  have fW : frzL ((words P J B m bn).map .str) = (words P J B m bn).map D.str := frzL_id (isFL_strs _)
  obtain ⟨sok, sF⟩ := scan_ok (bn := bn) hp.ok hp.len
  obtain ⟨txt, re⟩ := sok.repr (xs := scanF bn pages) rfl (by decide) (by decide)
  obtain ⟨pre, post, ep, hpre, hmiss⟩ := hp.split
  have hl24 : (scanF bn pages).length = 24 := by unfold scanF; rw [List.length_set, List.length_replicate]
  have hrow : (scanF bn pages)[bn]? = some (.obj false .lst (pre ++ hit s J P m B :: post)) := by
    unfold scanF
    rw [List.getElem?_set_self (by rw [List.length_replicate]; exact hb), ep]
  have hfl : isFL (pre ++ hit s J P m B :: post) = true := by rw [← ep]; exact isFL_of fun y m => (hp.ok y m).1
  have df := defects_ok hl24 sF ok hrow hfl hmiss
  rw [hpre] at df
  obtain ⟨same, _⟩ := (due_ok (P := P) (J := J) (B := B) (m := m) hb hf4).same (by decide)
  have sk : dNeF (.str txt) (.str txt) = some (.bl false) := by
    have e : decide (V.str txt = V.str txt) = true := decide_eq_true rfl
    show (if scal (V.str txt) (V.str txt) = true then some (D.bl (!decide (V.str txt = V.str txt))) else none) = _
    rw [e]
    rfl
  have isl : dIsi "list" (dueD bn f (words P J B m bn)) = some (.bl true) := rfl
  have c1 : C_law_1 (lawS ns ds k (rootD s J P m B) bn (.obj true .lst (scanL bn pages)) j6 (some (.int f)) c8' c9 c10 c11 c12' c13) = .ok (dueD bn f (words P J B m bn)) := by
    have wl := words_len P J B m bn
    generalize words P J B m bn = W at lw fW wl
    let un : D → Str := fun x => match x with | .str w => w | _ => ""
    unfold C_law_1
    rw [eLc_ev (xs := W.map .str) (fun d => lawS ns ds k (rootD s J P m B) bn (.obj true .lst (scanL bn pages)) j6 (some (.int f)) c8' c9 c10 c11 c12' (some d)) (fun _ => true) (fun d => .tup [.int bn, .int f, .str (un d)]) ?_ (by rw [List.length_map]; omega) ?_]
    · have e : (W.map D.str).filter (fun _ => true) = W.map D.str := List.filter_eq_self.mpr fun _ _ => rfl
      rw [e, List.map_map]
      rfl
    · simp -implicitDefEqProofs only [mSeq_ev, sq_nx, sq_rt, sq_bk, sq_ct, sq_ite, of_ok, mSkip_ev, mSetN_ev, mRet_ev, mIf_ev, mFor_ev, mBk_ev, mCt_ev, eB2_ev, eU_ev, eC_ev, aNil_ev, aCons_ev, eCall_ev, eTup_ev, eLst_ev, eSl_ev, oNo_ev, oSo_ev, bOf_ev, bAnd_ev, bOr_ev, bNot_ev, asB_bl, get_mk, set_mk, gV, cI, cS, cB, cN, eF, eFz, iL, iP, iT, i1, i2, iEn, aN, eIsN, eNotN, R.bind_ok, R.map_ok, R.of_some, List.set_cons_zero, List.set_cons_succ, List.getElem?_cons_zero, List.getElem?_cons_succ, List.length_cons, List.length_nil, D.isF, isFL, if_true, if_false, Bool.false_eq_true, Bool.not_true, Bool.not_false, Bool.and_true, Bool.true_and, Bool.and_false, Bool.false_and, bName, bTup, setAll, Nat.zero_add, Nat.reduceAdd, Nat.reduceLeDiff, Nat.reduceEqDiff, List.map_cons, List.map_nil, Option.map_some, Option.bind_some, root_isF, lw, frz_obj, fW, itL]
    · intro d hd
      obtain ⟨w, hw, rfl⟩ := List.mem_map.mp hd
      refine ⟨rfl, rfl, fun _ => ?_⟩
      simp -implicitDefEqProofs only [mSeq_ev, sq_nx, sq_rt, sq_bk, sq_ct, sq_ite, of_ok, mSkip_ev, mSetN_ev, mRet_ev, mIf_ev, mFor_ev, mBk_ev, mCt_ev, eB2_ev, eU_ev, eC_ev, aNil_ev, aCons_ev, eCall_ev, eTup_ev, eLst_ev, eSl_ev, oNo_ev, oSo_ev, bOf_ev, bAnd_ev, bOr_ev, bNot_ev, asB_bl, get_mk, set_mk, gV, cI, cS, cB, cN, eF, eFz, iL, iP, iT, i1, i2, iEn, aN, eIsN, eNotN, R.bind_ok, R.map_ok, R.of_some, List.set_cons_zero, List.set_cons_succ, List.getElem?_cons_zero, List.getElem?_cons_succ, List.length_cons, List.length_nil, D.isF, isFL, if_true, if_false, Bool.false_eq_true, Bool.not_true, Bool.not_false, Bool.and_true, Bool.true_and, Bool.and_false, Bool.false_and, bName, bTup, setAll, Nat.zero_add, Nat.reduceAdd, Nat.reduceLeDiff, Nat.reduceEqDiff, List.map_cons, List.map_nil, Option.map_some, Option.bind_some]
      rfl
  have c1' : C_law_1 (lawS ns ds k (rootD s J P m B) bn (.obj true .lst (scanL bn pages)) j6 (some (.int f)) c8' c9 c10 c11 c12' c13) = .ok (dueD bn f (words P J B m bn)) := c1
  generalize hW : words P J B m bn = W at df same isl c1'
  generalize dueD bn f W = due at df same isl c1'
  refine ⟨some (rootD s J P m B), some (.int bn), some (.obj false .lst (scanF bn pages)), j6, some (.int f), c8', some due, some (.str txt), some due, c12', c13, ?_⟩
  unfold L_law_3
  refine (mSeq_nx (ρ' := ⟨[some (.obj false .rol (ns.map .int)), some (.obj true .lst (ds.map .int)), some (.int k), some (rootD s J P m B), c4, c5, c6, c7, c8, c9, c10, c11, c12, c13], []⟩) ?_).trans ?_
  · have fz : frzL [D.int q0, D.int q1, D.int q2, D.int q3] = [D.int q0, D.int q1, D.int q2, D.int q3] := rfl
    simp -implicitDefEqProofs only [mSeq_ev, sq_nx, sq_rt, sq_bk, sq_ct, sq_ite, of_ok, mSkip_ev, mSetN_ev, mRet_ev, mIf_ev, mFor_ev, mBk_ev, mCt_ev, eB2_ev, eU_ev, eC_ev, aNil_ev, aCons_ev, eCall_ev, eTup_ev, eLst_ev, eSl_ev, oNo_ev, oSo_ev, bOf_ev, bAnd_ev, bOr_ev, bNot_ev, asB_bl, get_mk, set_mk, gV, cI, cS, cB, cN, eF, eFz, iL, iP, iT, i1, i2, iEn, aN, eIsN, eNotN, R.bind_ok, R.map_ok, R.of_some, List.set_cons_zero, List.set_cons_succ, List.getElem?_cons_zero, List.getElem?_cons_succ, List.length_cons, List.length_nil, D.isF, isFL, if_true, if_false, Bool.false_eq_true, Bool.not_true, Bool.not_false, Bool.and_true, Bool.true_and, Bool.and_false, Bool.false_and, bName, bTup, setAll, Nat.zero_add, Nat.reduceAdd, Nat.reduceLeDiff, Nat.reduceEqDiff, List.map_cons, List.map_nil, Option.map_some, Option.bind_some, mK, addI_int, eq, frz_obj, fz, er]
  refine (mSeq_nx (ρ' := ⟨[some (.obj false .rol (ns.map .int)), some (.obj true .lst (ds.map .int)), some (.int k), some (rootD s J P m B), some (.int bn), c5, c6, c7, c8, c9, c10, c11, c12, c13], []⟩) ?_).trans ?_
  · simp -implicitDefEqProofs only [mSeq_ev, sq_nx, sq_rt, sq_bk, sq_ct, sq_ite, of_ok, mSkip_ev, mSetN_ev, mRet_ev, mIf_ev, mFor_ev, mBk_ev, mCt_ev, eB2_ev, eU_ev, eC_ev, aNil_ev, aCons_ev, eCall_ev, eTup_ev, eLst_ev, eSl_ev, oNo_ev, oSo_ev, bOf_ev, bAnd_ev, bOr_ev, bNot_ev, asB_bl, get_mk, set_mk, gV, cI, cS, cB, cN, eF, eFz, iL, iP, iT, i1, i2, iEn, aN, eIsN, eNotN, R.bind_ok, R.map_ok, R.of_some, List.set_cons_zero, List.set_cons_succ, List.getElem?_cons_zero, List.getElem?_cons_succ, List.length_cons, List.length_nil, D.isF, isFL, if_true, if_false, Bool.false_eq_true, Bool.not_true, Bool.not_false, Bool.and_true, Bool.true_and, Bool.and_false, Bool.false_and, bName, bTup, setAll, Nat.zero_add, Nat.reduceAdd, Nat.reduceLeDiff, Nat.reduceEqDiff, List.map_cons, List.map_nil, Option.map_some, Option.bind_some, addI_int, dIx_lst, hd, dInt_int, dMod_p p24, hbn]
  refine (mSeq_nx (ρ' := lawS ns ds k (rootD s J P m B) bn (.obj true .lst []) c6 c7 c8 c9 c10 c11 c12 c13) ?_).trans ?_
  · simp -implicitDefEqProofs only [mSeq_ev, sq_nx, sq_rt, sq_bk, sq_ct, sq_ite, of_ok, mSkip_ev, mSetN_ev, mRet_ev, mIf_ev, mFor_ev, mBk_ev, mCt_ev, eB2_ev, eU_ev, eC_ev, aNil_ev, aCons_ev, eCall_ev, eTup_ev, eLst_ev, eSl_ev, oNo_ev, oSo_ev, bOf_ev, bAnd_ev, bOr_ev, bNot_ev, asB_bl, get_mk, set_mk, gV, cI, cS, cB, cN, eF, eFz, iL, iP, iT, i1, i2, iEn, aN, eIsN, eNotN, R.bind_ok, R.map_ok, R.of_some, List.set_cons_zero, List.set_cons_succ, List.getElem?_cons_zero, List.getElem?_cons_succ, List.length_cons, List.length_nil, D.isF, isFL, if_true, if_false, Bool.false_eq_true, Bool.not_true, Bool.not_false, Bool.and_true, Bool.true_and, Bool.and_false, Bool.false_and, bName, bTup, setAll, Nat.zero_add, Nat.reduceAdd, Nat.reduceLeDiff, Nat.reduceEqDiff, List.map_cons, List.map_nil, Option.map_some, Option.bind_some]
  refine (mSeq_nx (ρ' := lawS ns ds k (rootD s J P m B) bn (.obj true .lst (List.replicate 24 row0)) j6 c7 c8 c9 c10 c11 c12 c13) ?_).trans ?_
  · simp -implicitDefEqProofs only [mSeq_ev, sq_nx, sq_rt, sq_bk, sq_ct, sq_ite, of_ok, mSkip_ev, mSetN_ev, mRet_ev, mIf_ev, mFor_ev, mBk_ev, mCt_ev, eB2_ev, eU_ev, eC_ev, aNil_ev, aCons_ev, eCall_ev, eTup_ev, eLst_ev, eSl_ev, oNo_ev, oSo_ev, bOf_ev, bAnd_ev, bOr_ev, bNot_ev, asB_bl, get_mk, set_mk, gV, cI, cS, cB, cN, eF, eFz, iL, iP, iT, i1, i2, iEn, aN, eIsN, eNotN, R.bind_ok, R.map_ok, R.of_some, List.set_cons_zero, List.set_cons_succ, List.getElem?_cons_zero, List.getElem?_cons_succ, List.length_cons, List.length_nil, D.isF, isFL, if_true, if_false, Bool.false_eq_true, Bool.not_true, Bool.not_false, Bool.and_true, Bool.true_and, Bool.and_false, Bool.false_and, bName, bTup, setAll, Nat.zero_add, Nat.reduceAdd, Nat.reduceLeDiff, Nat.reduceEqDiff, List.map_cons, List.map_nil, Option.map_some, Option.bind_some, it24]
    exact lp
  refine (mSeq_nx (ρ' := lawS ns ds k (rootD s J P m B) bn (.obj true .lst (List.replicate 24 row0)) j6 (some (.int f)) c8 c9 c10 c11 c12 c13) ?_).trans ?_
  · simp -implicitDefEqProofs only [mSeq_ev, sq_nx, sq_rt, sq_bk, sq_ct, sq_ite, of_ok, mSkip_ev, mSetN_ev, mRet_ev, mIf_ev, mFor_ev, mBk_ev, mCt_ev, eB2_ev, eU_ev, eC_ev, aNil_ev, aCons_ev, eCall_ev, eTup_ev, eLst_ev, eSl_ev, oNo_ev, oSo_ev, bOf_ev, bAnd_ev, bOr_ev, bNot_ev, asB_bl, get_mk, set_mk, gV, cI, cS, cB, cN, eF, eFz, iL, iP, iT, i1, i2, iEn, aN, eIsN, eNotN, R.bind_ok, R.map_ok, R.of_some, List.set_cons_zero, List.set_cons_succ, List.getElem?_cons_zero, List.getElem?_cons_succ, List.length_cons, List.length_nil, D.isF, isFL, if_true, if_false, Bool.false_eq_true, Bool.not_true, Bool.not_false, Bool.and_true, Bool.true_and, Bool.and_false, Bool.false_and, bName, bTup, setAll, Nat.zero_add, Nat.reduceAdd, Nat.reduceLeDiff, Nat.reduceEqDiff, List.map_cons, List.map_nil, Option.map_some, Option.bind_some, addI_int, dIx_lst, hd, dInt_int, dDiv_p q24, dMod_p p4, hf]
  refine (mSeq_nx (ρ' := lawS ns ds k (rootD s J P m B) bn (.obj true .lst (scanL bn (blanks.set f (hit s J P m B)))) j6 (some (.int f)) c8 c9 c10 c11 c12 c13) ?_).trans ?_
  · exact mPut2_ev (i := 5) (xs := List.replicate 24 row0) (ys := blanks) (d := hit s J P m B) (a := bn) (b := f) rfl (by simp -implicitDefEqProofs only [mSeq_ev, sq_nx, sq_rt, sq_bk, sq_ct, sq_ite, of_ok, mSkip_ev, mSetN_ev, mRet_ev, mIf_ev, mFor_ev, mBk_ev, mCt_ev, eB2_ev, eU_ev, eC_ev, aNil_ev, aCons_ev, eCall_ev, eTup_ev, eLst_ev, eSl_ev, oNo_ev, oSo_ev, bOf_ev, bAnd_ev, bOr_ev, bNot_ev, asB_bl, get_mk, set_mk, gV, cI, cS, cB, cN, eF, eFz, iL, iP, iT, i1, i2, iEn, aN, eIsN, eNotN, R.bind_ok, R.map_ok, R.of_some, List.set_cons_zero, List.set_cons_succ, List.getElem?_cons_zero, List.getElem?_cons_succ, List.length_cons, List.length_nil, D.isF, isFL, if_true, if_false, Bool.false_eq_true, Bool.not_true, Bool.not_false, Bool.and_true, Bool.true_and, Bool.and_false, Bool.false_and, bName, bTup, setAll, Nat.zero_add, Nat.reduceAdd, Nat.reduceLeDiff, Nat.reduceEqDiff, List.map_cons, List.map_nil, Option.map_some, Option.bind_some, root_isF, hit]) (by simp -implicitDefEqProofs only [mSeq_ev, sq_nx, sq_rt, sq_bk, sq_ct, sq_ite, of_ok, mSkip_ev, mSetN_ev, mRet_ev, mIf_ev, mFor_ev, mBk_ev, mCt_ev, eB2_ev, eU_ev, eC_ev, aNil_ev, aCons_ev, eCall_ev, eTup_ev, eLst_ev, eSl_ev, oNo_ev, oSo_ev, bOf_ev, bAnd_ev, bOr_ev, bNot_ev, asB_bl, get_mk, set_mk, gV, cI, cS, cB, cN, eF, eFz, iL, iP, iT, i1, i2, iEn, aN, eIsN, eNotN, R.bind_ok, R.map_ok, R.of_some, List.set_cons_zero, List.set_cons_succ, List.getElem?_cons_zero, List.getElem?_cons_succ, List.length_cons, List.length_nil, D.isF, isFL, if_true, if_false, Bool.false_eq_true, Bool.not_true, Bool.not_false, Bool.and_true, Bool.true_and, Bool.and_false, Bool.false_and, bName, bTup, setAll, Nat.zero_add, Nat.reduceAdd, Nat.reduceLeDiff, Nat.reduceEqDiff, List.map_cons, List.map_nil, Option.map_some, Option.bind_some]) (by simp -implicitDefEqProofs only [mSeq_ev, sq_nx, sq_rt, sq_bk, sq_ct, sq_ite, of_ok, mSkip_ev, mSetN_ev, mRet_ev, mIf_ev, mFor_ev, mBk_ev, mCt_ev, eB2_ev, eU_ev, eC_ev, aNil_ev, aCons_ev, eCall_ev, eTup_ev, eLst_ev, eSl_ev, oNo_ev, oSo_ev, bOf_ev, bAnd_ev, bOr_ev, bNot_ev, asB_bl, get_mk, set_mk, gV, cI, cS, cB, cN, eF, eFz, iL, iP, iT, i1, i2, iEn, aN, eIsN, eNotN, R.bind_ok, R.map_ok, R.of_some, List.set_cons_zero, List.set_cons_succ, List.getElem?_cons_zero, List.getElem?_cons_succ, List.length_cons, List.length_nil, D.isF, isFL, if_true, if_false, Bool.false_eq_true, Bool.not_true, Bool.not_false, Bool.and_true, Bool.true_and, Bool.and_false, Bool.false_and, bName, bTup, setAll, Nat.zero_add, Nat.reduceAdd, Nat.reduceLeDiff, Nat.reduceEqDiff, List.map_cons, List.map_nil, Option.map_some, Option.bind_some]) (by rw [List.getElem?_replicate, if_pos hb]; rfl) hf4
  refine (mSeq_nx (ρ' := lawS ns ds k (rootD s J P m B) bn (.obj true .lst (scanL bn pages)) j6 (some (.int f)) c8' c9 c10 c11 c12' c13) ?_).trans ?_
  · simp -implicitDefEqProofs only [mSeq_ev, sq_nx, sq_rt, sq_bk, sq_ct, sq_ite, of_ok, mSkip_ev, mSetN_ev, mRet_ev, mIf_ev, mFor_ev, mBk_ev, mCt_ev, eB2_ev, eU_ev, eC_ev, aNil_ev, aCons_ev, eCall_ev, eTup_ev, eLst_ev, eSl_ev, oNo_ev, oSo_ev, bOf_ev, bAnd_ev, bOr_ev, bNot_ev, asB_bl, get_mk, set_mk, gV, cI, cS, cB, cN, eF, eFz, iL, iP, iT, i1, i2, iEn, aN, eIsN, eNotN, R.bind_ok, R.map_ok, R.of_some, List.set_cons_zero, List.set_cons_succ, List.getElem?_cons_zero, List.getElem?_cons_succ, List.length_cons, List.length_nil, D.isF, isFL, if_true, if_false, Bool.false_eq_true, Bool.not_true, Bool.not_false, Bool.and_true, Bool.true_and, Bool.and_false, Bool.false_and, bName, bTup, setAll, Nat.zero_add, Nat.reduceAdd, Nat.reduceLeDiff, Nat.reduceEqDiff, List.map_cons, List.map_nil, Option.map_some, Option.bind_some, it4]
    exact lq
  refine (mSeq_nx (ρ' := lawS ns ds k (rootD s J P m B) bn (.obj true .lst (scanL bn pages)) j6 (some (.int f)) c8' (some due) c10 c11 c12' c13) ?_).trans ?_
  · rw [mSetN_ev, c1', of_ok]
    rfl
  rw [mFrz_ev (d := .obj true .lst (scanL bn pages)) rfl, frz_obj, scan_frz hp.ok]
  refine (mSeq_nx (ρ' := lawS ns ds k (rootD s J P m B) bn (.obj false .lst (scanF bn pages)) j6 (some (.int f)) c8' (some due) (some (.str txt)) c11 c12' c13) ?_).trans ?_
  · simp -implicitDefEqProofs only [mSeq_ev, sq_nx, sq_rt, sq_bk, sq_ct, sq_ite, of_ok, mSkip_ev, mSetN_ev, mRet_ev, mIf_ev, mFor_ev, mBk_ev, mCt_ev, eB2_ev, eU_ev, eC_ev, aNil_ev, aCons_ev, eCall_ev, eTup_ev, eLst_ev, eSl_ev, oNo_ev, oSo_ev, bOf_ev, bAnd_ev, bOr_ev, bNot_ev, asB_bl, get_mk, set_mk, gV, cI, cS, cB, cN, eF, eFz, iL, iP, iT, i1, i2, iEn, aN, eIsN, eNotN, R.bind_ok, R.map_ok, R.of_some, List.set_cons_zero, List.set_cons_succ, List.getElem?_cons_zero, List.getElem?_cons_succ, List.length_cons, List.length_nil, D.isF, isFL, if_true, if_false, Bool.false_eq_true, Bool.not_true, Bool.not_false, Bool.and_true, Bool.true_and, Bool.and_false, Bool.false_and, bName, bTup, setAll, Nat.zero_add, Nat.reduceAdd, Nat.reduceLeDiff, Nat.reduceEqDiff, List.map_cons, List.map_nil, Option.map_some, Option.bind_some, re]
  refine (mSeq_nx (ρ' := lawS ns ds k (rootD s J P m B) bn (.obj false .lst (scanF bn pages)) j6 (some (.int f)) c8' (some due) (some (.str txt)) (some due) c12' c13) ?_).trans ?_
  · simp -implicitDefEqProofs only [mSeq_ev, sq_nx, sq_rt, sq_bk, sq_ct, sq_ite, of_ok, mSkip_ev, mSetN_ev, mRet_ev, mIf_ev, mFor_ev, mBk_ev, mCt_ev, eB2_ev, eU_ev, eC_ev, aNil_ev, aCons_ev, eCall_ev, eTup_ev, eLst_ev, eSl_ev, oNo_ev, oSo_ev, bOf_ev, bAnd_ev, bOr_ev, bNot_ev, asB_bl, get_mk, set_mk, gV, cI, cS, cB, cN, eF, eFz, iL, iP, iT, i1, i2, iEn, aN, eIsN, eNotN, R.bind_ok, R.map_ok, R.of_some, List.set_cons_zero, List.set_cons_succ, List.getElem?_cons_zero, List.getElem?_cons_succ, List.length_cons, List.length_nil, D.isF, isFL, if_true, if_false, Bool.false_eq_true, Bool.not_true, Bool.not_false, Bool.and_true, Bool.true_and, Bool.and_false, Bool.false_and, bName, bTup, setAll, Nat.zero_add, Nat.reduceAdd, Nat.reduceLeDiff, Nat.reduceEqDiff, List.map_cons, List.map_nil, Option.map_some, Option.bind_some, root_isF, sF, df]
  unfold I_law_3
  simp -implicitDefEqProofs only [mSeq_ev, sq_nx, sq_rt, sq_bk, sq_ct, sq_ite, of_ok, mSkip_ev, mSetN_ev, mRet_ev, mIf_ev, mFor_ev, mBk_ev, mCt_ev, eB2_ev, eU_ev, eC_ev, aNil_ev, aCons_ev, eCall_ev, eTup_ev, eLst_ev, eSl_ev, oNo_ev, oSo_ev, bOf_ev, bAnd_ev, bOr_ev, bNot_ev, asB_bl, get_mk, set_mk, gV, cI, cS, cB, cN, eF, eFz, iL, iP, iT, i1, i2, iEn, aN, eIsN, eNotN, R.bind_ok, R.map_ok, R.of_some, List.set_cons_zero, List.set_cons_succ, List.getElem?_cons_zero, List.getElem?_cons_succ, List.length_cons, List.length_nil, D.isF, isFL, if_true, if_false, Bool.false_eq_true, Bool.not_true, Bool.not_false, Bool.and_true, Bool.true_and, Bool.and_false, Bool.false_and, bName, bTup, setAll, Nat.zero_add, Nat.reduceAdd, Nat.reduceLeDiff, Nat.reduceEqDiff, List.map_cons, List.map_nil, Option.map_some, Option.bind_some, isl, same, re, sk]
theorem law_ok (ns : List Int) (hn : ns.length ≤ 63) : fnP N_law.length B_law [.obj false .rol (ns.map D.int)] [] = .ok (.bl true) := by
  refine fnP_rt (bx' := []) ?_
  show B_law ⟨[some (.obj false .rol (ns.map .int)), none, none, none, none, none, none, none, none, none, none, none, none, none], []⟩ = _
  obtain ⟨ds, e, hl, h0⟩ := draws_ok ns
  have ir : isFL (ns.map D.int) = true := isFL_ints ns
  have it8 : it1 [.int 8] = .ok (rngL 0 8) := it1_nat (n := 8) (by decide)
  obtain ⟨ρ', el, c2, c3, c4, c5, c6, c7, c8, c9, c10, c11, c12, c13, rfl⟩ := forL_inv (bt := bName 2) (body := L_law_3) (fun _ ρ => ∃ c2 c3 c4 c5 c6 c7 c8 c9 c10 c11 c12 c13 : Option D, ρ = ⟨[some (.obj false .rol (ns.map .int)), some (.obj true .lst (ds.map .int)), c2, c3, c4, c5, c6, c7, c8, c9, c10, c11, c12, c13], []⟩) (xs := rngL 0 8)
    (ρ := ⟨[some (.obj false .rol (ns.map .int)), some (.obj true .lst (ds.map .int)), none, none, none, none, none, none, none, none, none, none, none, none], []⟩) (by
    rintro i x ρ hx ⟨c2, c3, c4, c5, c6, c7, c8, c9, c10, c11, c12, c13, rfl⟩
    obtain ⟨rfl, hi⟩ := rng_get hx
    rw [Int.zero_add]
    obtain ⟨e3, e4, e5, e6, e7, e8, e9, e10, e11, e12, e13, st⟩ := step3 (ns := ns) hl h0 hi c3 c4 c5 c6 c7 c8 c9 c10 c11 c12 c13
    exact ⟨_, _, rfl, .inl st, _, e3, e4, e5, e6, e7, e8, e9, e10, e11, e12, e13, rfl⟩) ⟨_, _, _, _, _, _, _, _, _, _, _, _, rfl⟩
  unfold B_law
  refine (mSeq_nx (ρ' := ⟨[some (.obj false .rol (ns.map .int)), some (.obj true .lst (ds.map .int)), none, none, none, none, none, none, none, none, none, none, none, none], []⟩) ?_).trans ?_
  · simp -implicitDefEqProofs only [mSeq_ev, sq_nx, sq_rt, sq_bk, sq_ct, sq_ite, of_ok, mSkip_ev, mSetN_ev, mRet_ev, mIf_ev, mFor_ev, mBk_ev, mCt_ev, eB2_ev, eU_ev, eC_ev, aNil_ev, aCons_ev, eCall_ev, eTup_ev, eLst_ev, eSl_ev, oNo_ev, oSo_ev, bOf_ev, bAnd_ev, bOr_ev, bNot_ev, asB_bl, get_mk, set_mk, gV, cI, cS, cB, cN, eF, eFz, iL, iP, iT, i1, i2, iEn, aN, eIsN, eNotN, R.bind_ok, R.map_ok, R.of_some, List.set_cons_zero, List.set_cons_succ, List.getElem?_cons_zero, List.getElem?_cons_succ, List.length_cons, List.length_nil, D.isF, isFL, if_true, if_false, Bool.false_eq_true, Bool.not_true, Bool.not_false, Bool.and_true, Bool.true_and, Bool.and_false, Bool.false_and, bName, bTup, setAll, Nat.zero_add, Nat.reduceAdd, Nat.reduceLeDiff, Nat.reduceEqDiff, List.map_cons, List.map_nil, Option.map_some, Option.bind_some, ir, e]
  refine (mSeq_nx (ρ' := ⟨[some (.obj false .rol (ns.map .int)), some (.obj true .lst (ds.map .int)), c2, c3, c4, c5, c6, c7, c8, c9, c10, c11, c12, c13], []⟩) ?_).trans ?_
  · simp -implicitDefEqProofs only [mSeq_ev, sq_nx, sq_rt, sq_bk, sq_ct, sq_ite, of_ok, mSkip_ev, mSetN_ev, mRet_ev, mIf_ev, mFor_ev, mBk_ev, mCt_ev, eB2_ev, eU_ev, eC_ev, aNil_ev, aCons_ev, eCall_ev, eTup_ev, eLst_ev, eSl_ev, oNo_ev, oSo_ev, bOf_ev, bAnd_ev, bOr_ev, bNot_ev, asB_bl, get_mk, set_mk, gV, cI, cS, cB, cN, eF, eFz, iL, iP, iT, i1, i2, iEn, aN, eIsN, eNotN, R.bind_ok, R.map_ok, R.of_some, List.set_cons_zero, List.set_cons_succ, List.getElem?_cons_zero, List.getElem?_cons_succ, List.length_cons, List.length_nil, D.isF, isFL, if_true, if_false, Bool.false_eq_true, Bool.not_true, Bool.not_false, Bool.and_true, Bool.true_and, Bool.and_false, Bool.false_and, bName, bTup, setAll, Nat.zero_add, Nat.reduceAdd, Nat.reduceLeDiff, Nat.reduceEqDiff, List.map_cons, List.map_nil, Option.map_some, Option.bind_some, it8]
    exact el
  simp -implicitDefEqProofs only [mSeq_ev, sq_nx, sq_rt, sq_bk, sq_ct, sq_ite, of_ok, mSkip_ev, mSetN_ev, mRet_ev, mIf_ev, mFor_ev, mBk_ev, mCt_ev, eB2_ev, eU_ev, eC_ev, aNil_ev, aCons_ev, eCall_ev, eTup_ev, eLst_ev, eSl_ev, oNo_ev, oSo_ev, bOf_ev, bAnd_ev, bOr_ev, bNot_ev, asB_bl, get_mk, set_mk, gV, cI, cS, cB, cN, eF, eFz, iL, iP, iT, i1, i2, iEn, aN, eIsN, eNotN, R.bind_ok, R.map_ok, R.of_some, List.set_cons_zero, List.set_cons_succ, List.getElem?_cons_zero, List.getElem?_cons_succ, List.length_cons, List.length_nil, D.isF, isFL, if_true, if_false, Bool.false_eq_true, Bool.not_true, Bool.not_false, Bool.and_true, Bool.true_and, Bool.and_false, Bool.false_and, bName, bTup, setAll, Nat.zero_add, Nat.reduceAdd, Nat.reduceLeDiff, Nat.reduceEqDiff, List.map_cons, List.map_nil, Option.map_some, Option.bind_some]
end
end K81

set_option Elab.async false
set_option linter.all false
set_option maxRecDepth 100000

open PySem PySem.W PyProof.Rows
set_option maxHeartbeats 0 in
theorem PySem.Challenge.cw_tidemark_k81_defects_of_roots_holds : PySem.Challenge.rw_tidemark_k81_defects_of_roots.Holds := by
  w_on; o_law; k_head; (case hw => w_witness2)
  k_fill
  refine Tm.walk_top (l := PySem.Challenge.rw_tidemark_k81_defects_of_roots) (n := 63) (x := "_law_script") (ok := fun K a H => ∃ ns : List Int, ns.length ≤ 63 ∧ L2.SqL K H a (ns.map L2.V.int)) rfl (by decide) rfl (fun w h Y => PySem.W.kIn_of Y) ?F (fun K H a ns hl sq => ⟨ns, hl, sq⟩)
  case F =>
    intro w mg fa h KX G hmg
    refine K81.law_in ?t KX G hmg K81.law_ok
    case t =>
      refine' ⟨Tm.dfd_mk ?a0 ?l0 ?c0 ?k0, Tm.dfd_mk ?a1 ?l1 ?c1 ?k1, Tm.dfd_mk ?a2 ?l2 ?c2 ?k2, Tm.dfd_mk ?a3 ?l3 ?c3 ?k3, Tm.dfd_mk ?a4 ?l4 ?c4 ?k4, Tm.dfd_mk ?a5 ?l5 ?c5 ?k5, Tm.dfd_mk ?a6 ?l6 ?c6 ?k6, Tm.dfd_mk ?a7 ?l7 ?c7 ?k7, Tm.dfd_mk ?a8 ?l8 ?c8 ?k8, ?z0, ?z1, ?z2, ?z3, ?z4, ?z5, ?z6, ?z7, ?z8, ?z9⟩
      (case a0 => k_is); (case l0 => k_is); (case c0 => k_is); (case k0 => k_is)
      (case a1 => k_is); (case l1 => k_is); (case c1 => k_is); (case k1 => k_is)
      (case a2 => k_is); (case l2 => k_is); (case c2 => k_is); (case k2 => k_is)
      (case a3 => k_is); (case l3 => k_is); (case c3 => k_is); (case k3 => k_is)
      (case a4 => k_is); (case l4 => k_is); (case c4 => k_is); (case k4 => k_is)
      (case a5 => k_is); (case l5 => k_is); (case c5 => k_is); (case k5 => k_is)
      (case a6 => k_is); (case l6 => k_is); (case c6 => k_is); (case k6 => k_is)
      (case a7 => k_is); (case l7 => k_is); (case c7 => k_is); (case k7 => k_is)
      (case a8 => k_is); (case l8 => k_is); (case c8 => k_is); (case k8 => k_is)
      (case z0 => k_is); (case z1 => k_is); (case z2 => k_is); (case z3 => k_is); (case z4 => k_is); (case z5 => k_is); (case z6 => k_is); (case z7 => k_is); (case z8 => k_is); (case z9 => k_is)

