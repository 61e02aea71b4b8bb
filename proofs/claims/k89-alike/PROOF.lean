import PyProof.Rows.All
import Wide.All
import OpenK.AllK
import Wide.FinOn
import HandS.ForMost
import HandS.HeadHook2
import HandS.Wide
import PyProof.ReprReads
import HandS.TupAny
import HandS.Style
import HandS.Strs
import HandS.IsInst
import HandS.Deep
import HandS.WordsDict
import HandS.RaiseMore
import HandS.SortInts
import PyProof.ReprRoads
import PyProof.Rows.StrMeet
import HandS.Star
import HandS.ExcOwn
import HandS.OwnEq
import HandS.Dict
import HandS.More
import HandS.Defaults
import HandS.HeadEnd
import HandS.Codes
import PyProof.FactsAll.list_3
import PyProof.FactsAll.tuple_2
import KE.GoesMore
import HandS.TryOnly
import HandS.Iter
import HandS.Zip
import HandS.Conv
import HandS.DictComp
import PyProof.SliceList
import PyProof.P3Eq
import HandS.HeadHook4
import HandS.Head2
import PySem.Challenge.RW_talkbook_k89_talks_alike
import Lean
import KE.KStateDown
import HandS.Head0
import HandS.Head1
import PySem.Str
import PyProof.ReprBulk
import PyProof.Rows.ReprOcc
section
set_option Elab.async false
set_option linter.all false
set_option maxRecDepth 100000
set_option maxHeartbeats 4000000
/-! The own values, heap, and what they stand for in the hand layer. -/
namespace R
open PySem L2

/-- a value of the own interpreter: tuples by what they hold, objects by their number, fro: a list that is only read -/
inductive PV where
  | non | bl (b : Bool) | int (i : Int) | str (x : Str)
  | tup (l : List PV) | fro (l : List PV) | ref (n : Nat) | glo (x : Str)

/-- an object of the own heap -/
inductive PO where
  | lst (l : List PV)
  | dic (l : List (Key × PV))
  | ins (C : Str) (fs : List (Str × PV))

abbrev PH := List PO
abbrev Sl := List (Option PV)

/-- what an expression comes to -/
inductive Rs (α : Type) where
  | ok (a : α) (h : PH)
  | er (C : Str) (as : List (Str × PV)) (h : PH)
  | bad

def Rs.bind {α β : Type} (r : Rs α) (k : α → PH → Rs β) : Rs β := match r with
  | .ok a h => k a h
  | .er C as h => .er C as h
  | .bad => .bad
@[simp] theorem Rs.bind_ok {α β : Type} (a : α) (h : PH) (k : α → PH → Rs β) : (Rs.ok a h).bind k = k a h := rfl
@[simp] theorem Rs.bind_er {α β : Type} (C : Str) (as) (h : PH) (k : α → PH → Rs β) : (Rs.er C as h).bind k = .er C as h := rfl
@[simp] theorem Rs.bind_bad {α β : Type} (k : α → PH → Rs β) : (Rs.bad : Rs α).bind k = .bad := rfl
theorem Rs.bind_assoc {α β γ : Type} (r : Rs α) (k : α → PH → Rs β) (l : β → PH → Rs γ) : (r.bind k).bind l = r.bind fun a h => (k a h).bind l := by
  cases r <;> rfl

/-! ### what stands for what -/
/-- l: the objects of the own heap, in its order; b: objects that are being made -/
structure Tr where
  l : List Addr
  b : List Addr
instance : Membership Addr Tr := ⟨fun ρ a => a ∈ ρ.l⟩
def Tr.add (ρ : Tr) (a : Addr) : Tr := ⟨ρ.l ++ [a], ρ.b⟩
structure Tr.Le (ρ ρ' : Tr) : Prop where
  l : ρ.l <+: ρ'.l
  b : ρ'.b = ρ.b
theorem Tr.le_refl (ρ : Tr) : Tr.Le ρ ρ := ⟨List.prefix_refl _, rfl⟩
theorem Tr.le_add (ρ : Tr) (a : Addr) : Tr.Le ρ (ρ.add a) := ⟨List.prefix_append _ _, rfl⟩
theorem Tr.Le.trans {ρ ρ1 ρ2 : Tr} (h : Tr.Le ρ ρ1) (k : Tr.Le ρ1 ρ2) : Tr.Le ρ ρ2 := ⟨h.l.trans k.l, k.b.trans h.b⟩
theorem Tr.Le.get {ρ ρ1 : Tr} (h : Tr.Le ρ ρ1) {n : Nat} {a : Addr} (e : ρ.l[n]? = some a) : ρ1.l[n]? = some a := by
  obtain ⟨t, ht⟩ := h.l
  rw [← ht, List.getElem?_append_left (List.getElem?_eq_some_iff.mp e).1]
  exact e
@[simp] theorem Tr.add_l (ρ : Tr) (a : Addr) : (ρ.add a).l = ρ.l ++ [a] := rfl
theorem Tr.get_add (ρ : Tr) (a : Addr) : (ρ.add a).l[ρ.l.length]? = some a := by rw [Tr.add_l, List.getElem?_append_right (Nat.le_refl _), Nat.sub_self] <;> rfl
theorem Tr.mem_add {ρ : Tr} {a p : Addr} : a ∈ ρ.add p ↔ a ∈ ρ ∨ a = p := by
  show a ∈ ρ.l ++ [p] ↔ a ∈ ρ.l ∨ a = p
  simp
/-- a tuple at a, without a dict of its own -/
def PTup (K : PySem.W.Frag) (H : Hp) (a : Addr) (vs : List V) : Prop :=
  (∃ o : Obj, H a = some (.frz o (.tup vs)) ∧ o.dict = none) ∨
    ∃ (o : Obj) (its : Array Value) (n : Nat), K.lookup a = some o ∧ o.cls = .type "tuple" ∧ o.dict = none ∧ o.data = .seq its n ∧ its.size ≤ sizeLine ∧ Vals vs its.toList
theorem PTup.sq {K : PySem.W.Frag} {H : Hp} {a : Addr} {vs : List V} (p : PTup K H a vs) : SqT K H a vs := by
  rcases p with ⟨o, e, _⟩ | ⟨o, its, n, h1, h2, _, h3, h4, h5⟩
  · exact .inl (.inr ⟨o, e⟩)
  · exact .inr ⟨o, its, n, h1, h2, h3, h4, h5⟩
section
variable (K : PySem.W.Frag)
mutual
inductive RP (ρ : Tr) (H : Hp) : PV → V → Prop
  | non : RP ρ H .non .non
  | bl (b : Bool) : RP ρ H (.bl b) (.bl b)
  | int (i : Int) : RP ρ H (.int i) (.int i)
  | str (x : Str) : RP ρ H (.str x) (.str x)
  | ref {n : Nat} {a : Addr} : ρ.l[n]? = some a → RP ρ H (.ref n) (.ref a)
  | glo {x : Str} : RP ρ H (.glo x) (.ref (He.ga K x))
  | tup {a : Addr} {xs : List PV} {vs : List V} : PTup K H a vs → RPs ρ H xs vs → RP ρ H (.tup xs) (.ref a)
  | fro {a : Addr} {o : Obj} {xs : List PV} {vs : List V} : H a = some (.frz o (.lst vs)) → RPs ρ H xs vs → RP ρ H (.fro xs) (.ref a)
  | frl {a : Addr} {xs : List PV} {vs : List V} : a ∉ ρ → a ∉ ρ.b → H a = some (.lst vs) → RPs ρ H xs vs → RP ρ H (.fro xs) (.ref a)
  | frk {a : Addr} {xs : List PV} {vs : List V} : (∀ H : Hp, SqL K H a vs) → RPs ρ H xs vs → RP ρ H (.fro xs) (.ref a)
inductive RPs (ρ : Tr) (H : Hp) : List PV → List V → Prop
  | nil : RPs ρ H [] []
  | cons {x : PV} {v : V} {xs : List PV} {vs : List V} : RP ρ H x v → RPs ρ H xs vs → RPs ρ H (x :: xs) (v :: vs)
end
/-- later: what never changes stays -/
structure Keep (ρ ρ' : Tr) (H H' : Hp) : Prop where
  fix : ∀ a o, H a = some o → a ∉ ρ → a ∉ ρ' ∧ H' a = some o
  frz : ∀ a o u, H a = some (.frz o u) → H' a = some (.frz o u)
end
variable {K : PySem.W.Frag}
theorem Keep.refl (ρ : Tr) (H : Hp) : Keep ρ ρ H H := ⟨fun _ _ h n => ⟨n, h⟩, fun _ _ _ h => h⟩
theorem Keep.trans {ρ ρ1 ρ2 : Tr} {H H1 H2 : Hp} (a : Keep ρ ρ1 H H1) (b : Keep ρ1 ρ2 H1 H2) : Keep ρ ρ2 H H2 :=
  ⟨fun c o h n => let ⟨x, y⟩ := a.fix c o h n; b.fix c o y x, fun c o u h => b.frz c o u (a.frz c o u h)⟩
theorem Keep.of_same {ρ : Tr} {H H' : Hp} (s : ∀ b o, H b = some o → H' b = some o) : Keep ρ ρ H H' := ⟨fun a o h n => ⟨n, s _ _ h⟩, fun a o u h => s _ _ h⟩
theorem upd_same_of {H : Hp} {p : Addr} {o : HO} (hp : H p = none) : ∀ b u, H b = some u → upd H p o b = some u := fun b u e => by
  rw [upd_ne (ne_of_none e hp)]; exact e
theorem Keep.new {ρ : Tr} {H : Hp} {p : Addr} {o : HO} (hp : H p = none) : Keep ρ ρ H (upd H p o) := .of_same (upd_same_of hp)
theorem Keep.add {ρ : Tr} {H H' : Hp} {p : Addr} (hp : H p = none) (s : ∀ b o, H b = some o → H' b = some o) : Keep ρ (ρ.add p) H H' := by
  refine ⟨fun a o h n => ⟨fun m => ?_, s _ _ h⟩, fun a o u h => s _ _ h⟩
  rcases Tr.mem_add.mp m with m | e
  · exact n m
  · rw [e, hp] at h
    cases h
/-- an object that may change is written -/
theorem Keep.write {ρ : Tr} {H : Hp} {p : Addr} {o o' : HO} (hp : H p = some o) (n2 : ∀ q u, o ≠ .frz q u) (m : p ∈ ρ) : Keep ρ ρ H (upd H p o') := by
  refine ⟨fun a o h n => ⟨n, ?_⟩, fun a q u e => by rw [upd_ne (ne_of e hp (fun z => n2 _ _ z.symm))]; exact e⟩
  have na : a ≠ p := fun z => n (by rw [z]; exact m)
  rw [upd_ne na]
  exact h
theorem PTup.keep {K : PySem.W.Frag} {ρ ρ' : Tr} {H H' : Hp} {a : Addr} {vs : List V} (k : Keep ρ ρ' H H') (p : PTup K H a vs) : PTup K H' a vs :=
  p.imp (fun ⟨o, e, d⟩ => ⟨o, k.frz _ _ _ e, d⟩) id

/-- later, or with another object being made -/
structure MV (ρ ρ' : Tr) (H H' : Hp) : Prop where
  l : ρ.l <+: ρ'.l
  fz : ∀ a o u, H a = some (.frz o u) → H' a = some (.frz o u)
  fx : ∀ a o, H a = some (.lst o) → a ∉ ρ → a ∉ ρ.b → a ∉ ρ' ∧ a ∉ ρ'.b ∧ H' a = some (.lst o)
theorem MV.of {ρ ρ' : Tr} {H H' : Hp} (l : Tr.Le ρ ρ') (k : Keep ρ ρ' H H') : MV ρ ρ' H H' := ⟨l.l, k.frz, fun a o h n nb => ⟨(k.fix a _ h n).1, by rw [l.b]; exact nb, (k.fix a _ h n).2⟩⟩
theorem MV.refl (ρ : Tr) (H : Hp) : MV ρ ρ H H := .of (Tr.le_refl ρ) (Keep.refl ρ H)
theorem MV.trans {ρ ρ1 ρ2 : Tr} {H H1 H2 : Hp} (a : MV ρ ρ1 H H1) (b : MV ρ1 ρ2 H1 H2) : MV ρ ρ2 H H2 :=
  ⟨a.l.trans b.l, fun c o u h => b.fz _ _ _ (a.fz _ _ _ h), fun c o h n nb => let ⟨x, y, z⟩ := a.fx c o h n nb; b.fx c o z x y⟩
theorem MV.get {ρ ρ1 : Tr} {H H1 : Hp} (h : MV ρ ρ1 H H1) {n : Nat} {a : Addr} (e : ρ.l[n]? = some a) : ρ1.l[n]? = some a := by
  obtain ⟨t, ht⟩ := h.l
  rw [← ht, List.getElem?_append_left (List.getElem?_eq_some_iff.mp e).1]
  exact e
theorem PTup.move {K : PySem.W.Frag} {ρ ρ' : Tr} {H H' : Hp} {a : Addr} {vs : List V} (k : MV ρ ρ' H H') (p : PTup K H a vs) : PTup K H' a vs :=
  p.imp (fun ⟨o, e, d⟩ => ⟨o, k.fz _ _ _ e, d⟩) id
mutual
theorem RP.move {ρ ρ' : Tr} {H H' : Hp} (k : MV ρ ρ' H H') : ∀ {x : PV} {v : V}, RP K ρ H x v → RP K ρ' H' x v
  | _, _, .non => .non
  | _, _, .bl b => .bl b
  | _, _, .int i => .int i
  | _, _, .str x => .str x
  | _, _, .ref e => .ref (k.get e)
  | _, _, .glo => .glo
  | _, _, .tup h r => .tup (h.move k) (RPs.move k r)
  | _, _, .fro h r => .fro (k.fz _ _ _ h) (RPs.move k r)
  | _, _, .frl n nb h r => .frl (k.fx _ _ h n nb).1 (k.fx _ _ h n nb).2.1 (k.fx _ _ h n nb).2.2 (RPs.move k r)
  | _, _, .frk h r => .frk h (RPs.move k r)
theorem RPs.move {ρ ρ' : Tr} {H H' : Hp} (k : MV ρ ρ' H H') : ∀ {xs : List PV} {vs : List V}, RPs K ρ H xs vs → RPs K ρ' H' xs vs
  | _, _, .nil => .nil
  | _, _, .cons a b => .cons (RP.move k a) (RPs.move k b)
end
theorem RP.mono {ρ ρ' : Tr} {H H' : Hp} (l : Tr.Le ρ ρ') (k : Keep ρ ρ' H H') {x : PV} {v : V} (r : RP K ρ H x v) : RP K ρ' H' x v := r.move (.of l k)
theorem RPs.mono {ρ ρ' : Tr} {H H' : Hp} (l : Tr.Le ρ ρ') (k : Keep ρ ρ' H H') {xs : List PV} {vs : List V} (r : RPs K ρ H xs vs) : RPs K ρ' H' xs vs := r.move (.of l k)
theorem RPs.length {ρ : Tr} {H : Hp} : ∀ {xs : List PV} {vs : List V}, RPs K ρ H xs vs → xs.length = vs.length
  | _, _, .nil => rfl
  | _, _, .cons _ b => congrArg Nat.succ b.length
theorem RPs.append {ρ : Tr} {H : Hp} : ∀ {xs ys : List PV} {vs ws : List V}, RPs K ρ H xs vs → RPs K ρ H ys ws → RPs K ρ H (xs ++ ys) (vs ++ ws)
  | _, _, _, _, .nil, s => s
  | _, _, _, _, .cons a b, s => .cons a (b.append s)
theorem RPs.get {ρ : Tr} {H : Hp} : ∀ {xs : List PV} {vs : List V} {i : Nat} {x : PV}, RPs K ρ H xs vs → xs[i]? = some x → ∃ v, vs[i]? = some v ∧ RP K ρ H x v
  | _, _, _, _, .nil, e => by simp at e
  | _, _, 0, _, .cons a _, e => ⟨_, rfl, by simp at e; subst e; exact a⟩
  | _, _, i + 1, x, .cons _ b, e => by
    obtain ⟨v, h1, h2⟩ := b.get (i := i) (x := x) (by simpa using e)
    exact ⟨v, by simpa using h1, h2⟩
theorem RPs.set {ρ : Tr} {H : Hp} {x : PV} {v : V} (r : RP K ρ H x v) : ∀ {xs : List PV} {vs : List V} (i : Nat), RPs K ρ H xs vs → RPs K ρ H (xs.set i x) (vs.set i v)
  | _, _, _, .nil => .nil
  | _, _, 0, .cons _ b => .cons r b
  | _, _, i + 1, .cons a b => .cons a (RPs.set r i b)
theorem RPs.take {ρ : Tr} {H : Hp} : ∀ {xs : List PV} {vs : List V} (n : Nat), RPs K ρ H xs vs → RPs K ρ H (xs.take n) (vs.take n)
  | _, _, 0, _ => .nil
  | _, _, _ + 1, .nil => .nil
  | _, _, n + 1, .cons a b => .cons a (RPs.take n b)
theorem RPs.drop {ρ : Tr} {H : Hp} : ∀ {xs : List PV} {vs : List V} (n : Nat), RPs K ρ H xs vs → RPs K ρ H (xs.drop n) (vs.drop n)
  | _, _, 0, r => r
  | _, _, _ + 1, .nil => .nil
  | _, _, n + 1, .cons _ b => RPs.drop n b
theorem RPs.reverse {ρ : Tr} {H : Hp} : ∀ {xs : List PV} {vs : List V}, RPs K ρ H xs vs → RPs K ρ H xs.reverse vs.reverse
  | _, _, .nil => .nil
  | _, _, .cons a b => by
    rw [List.reverse_cons, List.reverse_cons]
    exact b.reverse.append (.cons a .nil)

/-! ### the heap -/
abbrev KPs (K : PySem.W.Frag) (ρ : Tr) (H : Hp) {κ : Type} : List (κ × PV) → List (κ × V) → Prop := Paired fun p q => p.1 = q.1 ∧ RP K ρ H p.2 q.2
theorem KPs.mono {κ : Type} {ρ ρ' : Tr} {H H' : Hp} (l : Tr.Le ρ ρ') (k : Keep ρ ρ' H H') : ∀ {xs : List (κ × PV)} {vs : List (κ × V)}, KPs K ρ H xs vs → KPs K ρ' H' xs vs
  | _, _, .nil => .nil
  | _, _, .cons a b => .cons ⟨a.1, a.2.mono l k⟩ (KPs.mono l k b)
theorem KPs.move {κ : Type} {ρ ρ' : Tr} {H H' : Hp} (k : MV ρ ρ' H H') : ∀ {xs : List (κ × PV)} {vs : List (κ × V)}, KPs K ρ H xs vs → KPs K ρ' H' xs vs
  | _, _, .nil => .nil
  | _, _, .cons a b => .cons ⟨a.1, a.2.move k⟩ (KPs.move k b)
def RO (K : PySem.W.Frag) (ρ : Tr) (H : Hp) (a : Addr) : PO → Prop
  | .lst l => ∃ vs, H a = some (.lst vs) ∧ RPs K ρ H l vs
  | .dic l => ∃ kvs, H a = some (.dK kvs) ∧ KPs K ρ H l kvs
  | .ins C fs => ∃ dx gs, H a = some (.ins (He.ga K C) dx gs) ∧ KPs K ρ H fs gs
structure Sim (K : PySem.W.Frag) (ρ : Tr) (h : PH) (H : Hp) : Prop where
  len : ρ.l.length = h.length
  nd : ρ.l.Nodup
  obj : ∀ (n : Nat) (o : PO) (a : Addr), h[n]? = some o → ρ.l[n]? = some a → RO K ρ H a o
  bz : ∀ a ∈ ρ.b, ∃ vs, H a = some (.lst vs)
  bd : ∀ a ∈ ρ.b, a ∉ ρ
/-- a tracked thing other than a's own stands as before -/
theorem RO.mono {ρ ρ' : Tr} {H H' : Hp} {a : Addr} {o : PO} (l : Tr.Le ρ ρ') (k : Keep ρ ρ' H H') (e : ∀ u, H a = some u → H' a = some u) (r : RO K ρ H a o) : RO K ρ' H' a o := by
  cases o with
  | lst _ => obtain ⟨vs, h1, h2⟩ := r; exact ⟨vs, e _ h1, h2.mono l k⟩
  | dic _ => obtain ⟨vs, h1, h2⟩ := r; exact ⟨vs, e _ h1, KPs.mono l k h2⟩
  | ins _ _ => obtain ⟨dx, vs, h1, h2⟩ := r; exact ⟨dx, vs, e _ h1, KPs.mono l k h2⟩
theorem RO.there {ρ : Tr} {H : Hp} {a : Addr} {o : PO} (r : RO K ρ H a o) : ∃ u, H a = some u ∧ (∀ xs, u ≠ .tup xs) ∧ (∀ q w, u ≠ .frz q w) ∧ ∀ x, u ≠ .own x := by
  cases o with
  | lst _ => obtain ⟨vs, h1, h2⟩ := r; exact ⟨_, h1, fun _ z => (nomatch z), fun _ _ z => (nomatch z), fun _ z => (nomatch z)⟩
  | dic _ => obtain ⟨vs, h1, h2⟩ := r; exact ⟨_, h1, fun _ z => (nomatch z), fun _ _ z => (nomatch z), fun _ z => (nomatch z)⟩
  | ins _ _ => obtain ⟨dx, vs, h1, h2⟩ := r; exact ⟨_, h1, fun _ z => (nomatch z), fun _ _ z => (nomatch z), fun _ z => (nomatch z)⟩
theorem Sim.at {ρ : Tr} {h : PH} {H : Hp} (S : Sim K ρ h H) {n : Nat} {o : PO} (e : h[n]? = some o) : ∃ a, ρ.l[n]? = some a ∧ RO K ρ H a o := by
  have hl : n < ρ.l.length := by rw [S.len]; exact (List.getElem?_eq_some_iff.mp e).1
  exact ⟨ρ.l[n], List.getElem?_eq_getElem hl, S.obj n o _ e (List.getElem?_eq_getElem hl)⟩
theorem Sim.mem {ρ : Tr} {h : PH} {H : Hp} (S : Sim K ρ h H) {a : Addr} (m : a ∈ ρ) : ∃ u, H a = some u ∧ (∀ xs, u ≠ .tup xs) ∧ (∀ q w, u ≠ .frz q w) ∧ ∀ x, u ≠ .own x := by
  obtain ⟨n, hn, e⟩ := List.mem_iff_getElem.mp m
  have e' : ρ.l[n]? = some a := by rw [List.getElem?_eq_getElem hn, e]
  have hn' : n < h.length := by rw [← S.len]; exact hn
  exact (S.obj n _ a (List.getElem?_eq_getElem hn') e').there
theorem RO.move {ρ ρ' : Tr} {H H' : Hp} {a : Addr} {o : PO} (k : MV ρ ρ' H H') (e : ∀ u, H a = some u → H' a = some u) (r : RO K ρ H a o) : RO K ρ' H' a o := by
  cases o with
  | lst _ => obtain ⟨vs, h1, h2⟩ := r; exact ⟨vs, e _ h1, h2.move k⟩
  | dic _ => obtain ⟨vs, h1, h2⟩ := r; exact ⟨vs, e _ h1, KPs.move k h2⟩
  | ins _ _ => obtain ⟨dx, vs, h1, h2⟩ := r; exact ⟨dx, vs, e _ h1, KPs.move k h2⟩
theorem Sim.move {ρ ρ' : Tr} {h : PH} {H H' : Hp} (S : Sim K ρ h H) (el : ρ'.l = ρ.l) (k : MV ρ ρ' H H') (e : ∀ a ∈ ρ, ∀ u, H a = some u → H' a = some u) (bz : ∀ a ∈ ρ'.b, ∃ vs, H' a = some (.lst vs)) (bd : ∀ a ∈ ρ'.b, a ∉ ρ') : Sim K ρ' h H' :=
  ⟨by rw [el]; exact S.len, by rw [el]; exact S.nd, fun n o a e1 e2 => by
    rw [el] at e2
    exact (S.obj n o a e1 e2).move k (e a (List.mem_of_getElem? e2 : a ∈ ρ.l)), bz, bd⟩
/-- the abstract heap grows beside -/
theorem Sim.grow {ρ : Tr} {h : PH} {H H' : Hp} (S : Sim K ρ h H) (s : ∀ b o, H b = some o → H' b = some o) : Sim K ρ h H' :=
  ⟨S.len, S.nd, fun n o a e e' => (S.obj n o a e e').mono (Tr.le_refl ρ) (.of_same s) (s a), fun a ha => let ⟨vs, e⟩ := S.bz a ha; ⟨vs, s _ _ e⟩, S.bd⟩
/-- a new object at p -/
theorem Sim.new {ρ : Tr} {h : PH} {H H' : Hp} (S : Sim K ρ h H) (s : ∀ b o, H b = some o → H' b = some o) {p : Addr} (hp : H p = none) {o : PO} (r : RO K (ρ.add p) H' p o) : Sim K (ρ.add p) (h ++ [o]) H' := by
  have np : p ∉ ρ := fun m => by
    obtain ⟨u, e, _⟩ := S.mem m
    rw [hp] at e; cases e
  refine ⟨by simp [S.len], ?_, fun n q a e e' => ?_, fun a ha => let ⟨vs, e⟩ := S.bz a ha; ⟨vs, s _ _ e⟩, fun a ha m => ?_⟩
  rotate_left 2
  · rcases Tr.mem_add.mp m with m | e
    · exact S.bd a ha m
    · obtain ⟨vs, q⟩ := S.bz a ha
      rw [e, hp] at q; cases q
  · rw [Tr.add_l, List.nodup_append]
    exact ⟨S.nd, by simp, fun x hx y hy => by
      have : y = p := by simpa using hy
      subst this
      exact fun z => np (z ▸ hx)⟩
  · by_cases hn : n < h.length
    · rw [List.getElem?_append_left hn] at e
      rw [Tr.add_l, List.getElem?_append_left (by rw [S.len]; exact hn)] at e'
      exact (S.obj n q a e e').mono (Tr.le_add ρ p) (.add hp s) (s a)
    · have hn2 : n = h.length := by
        have := (List.getElem?_eq_some_iff.mp e).1
        rw [List.length_append, List.length_singleton] at this
        omega
      subst hn2
      rw [List.getElem?_append_right (Nat.le_refl _), Nat.sub_self] at e
      rw [← S.len, Tr.get_add] at e'
      simp at e e'
      subst e e'
      exact r
/-- the n-th object is changed -/
theorem Sim.write {ρ : Tr} {h : PH} {H : Hp} (S : Sim K ρ h H) {n : Nat} {a : Addr} (e : ρ.l[n]? = some a) {o : PO} {u : HO} (r : RO K ρ (upd H a u) a o) : Sim K ρ (h.set n o) (upd H a u) ∧ Keep ρ ρ H (upd H a u) := by
  have hn : n < ρ.l.length := (List.getElem?_eq_some_iff.mp e).1
  have hm : a ∈ ρ := (List.mem_of_getElem? e : a ∈ ρ.l)
  obtain ⟨w, hw, n1, n2, _⟩ := S.mem hm
  have k : Keep ρ ρ H (upd H a u) := Keep.write hw n2 hm
  refine ⟨⟨by rw [List.length_set]; exact S.len, S.nd, fun m q b e1 e2 => ?_, fun b hb => ?_, S.bd⟩, k⟩
  rotate_left
  · obtain ⟨vs, q⟩ := S.bz b hb
    exact ⟨vs, by rw [upd_ne (fun z => S.bd b hb (by rw [z]; exact hm))]; exact q⟩
  by_cases hmn : m = n
  · subst hmn
    rw [e] at e2; cases e2
    rw [List.getElem?_set_self (by rw [← S.len]; exact hn)] at e1
    cases e1
    exact r
  · rw [List.getElem?_set_ne (Ne.symm hmn)] at e1
    refine (S.obj m q b e1 e2).mono (Tr.le_refl ρ) k fun v hv => ?_
    rw [upd_ne]
    · exact hv
    · rintro rfl
      have h1 := List.getElem?_eq_some_iff.mp e2
      have h2 := List.getElem?_eq_some_iff.mp e
      exact hmn ((List.getElem_inj S.nd).mp (h1.2.trans h2.2.symm))

/-! ### slots -/
structure RS (K : PySem.W.Frag) (ρ : Tr) (H : Hp) (sl : Sl) (σ : L2.St) : Prop where
  len : sl.length = σ.length
  get : ∀ (i : Nat) (x : PV), sl[i]? = some (some x) → ∃ v, σ[i]? = some (some v) ∧ RP K ρ H x v
theorem RS.mono {ρ ρ' : Tr} {H H' : Hp} {sl : Sl} {σ : L2.St} (l : Tr.Le ρ ρ') (k : Keep ρ ρ' H H') (r : RS K ρ H sl σ) : RS K ρ' H' sl σ :=
  ⟨r.len, fun i x e => let ⟨v, h1, h2⟩ := r.get i x e; ⟨v, h1, h2.mono l k⟩⟩
theorem RS.set {ρ : Tr} {H : Hp} {sl : Sl} {σ : L2.St} (r : RS K ρ H sl σ) (i : Nat) {x : PV} {v : V} (p : RP K ρ H x v) : RS K ρ H (sl.set i (some x)) (σ.set i (some v)) := by
  refine ⟨by rw [List.length_set, List.length_set]; exact r.len, fun j y e => ?_⟩
  by_cases hj : j = i
  · subst hj
    have hl : j < sl.length := by
      have := (List.getElem?_eq_some_iff.mp e).1
      rwa [List.length_set] at this
    rw [List.getElem?_set_self hl] at e
    cases e
    exact ⟨v, List.getElem?_set_self (by rw [← r.len]; exact hl), p⟩
  · rw [List.getElem?_set_ne (Ne.symm hj)] at e
    obtain ⟨w, h1, h2⟩ := r.get j y e
    exact ⟨w, by rw [List.getElem?_set_ne (Ne.symm hj)]; exact h1, h2⟩
theorem RS.forget {ρ : Tr} {H : Hp} {sl : Sl} {σ : L2.St} (r : RS K ρ H sl σ) (i : Nat) (o : Option V) (h : ∀ x, sl[i]? ≠ some (some x)) : RS K ρ H sl (σ.set i o) := by
  refine ⟨by rw [List.length_set]; exact r.len, fun j y e => ?_⟩
  have hj : j ≠ i := fun z => h y (z ▸ e)
  rw [List.getElem?_set_ne (Ne.symm hj)]
  exact r.get j y e
/-- own wipe -/
def wipeS (sl : Sl) : List Nat → Sl
  | [] => sl
  | i :: r => (wipeS sl r).set i none
theorem RS.wipe {ρ : Tr} {H : Hp} {sl : Sl} {σ : L2.St} (r : RS K ρ H sl σ) : ∀ vs : List Nat, RS K ρ H (wipeS sl vs) (L2.wipe σ vs)
  | [] => r
  | i :: vs => by
    have q := r.wipe vs
    refine ⟨by show ((wipeS sl vs).set i none).length = ((L2.wipe σ vs).set i none).length; rw [List.length_set, List.length_set]; exact q.len, fun j y e => ?_⟩
    have e : ((wipeS sl vs).set i none)[j]? = some (some y) := e
    by_cases hj : j = i
    · subst hj
      by_cases hl : j < (wipeS sl vs).length
      · rw [List.getElem?_set_self hl] at e; cases e
      · rw [List.getElem?_eq_none (by rw [List.length_set]; omega)] at e; cases e
    · rw [List.getElem?_set_ne (Ne.symm hj)] at e
      obtain ⟨w, h1, h2⟩ := q.get j y e
      exact ⟨w, by show ((L2.wipe σ vs).set i none)[j]? = _; rw [List.getElem?_set_ne (Ne.symm hj)]; exact h1, h2⟩

/-! ### readings -/
/-- what is wanted of an exception: its class's name, its fields, its dict -/
abbrev Wish := Str → Addr → Hp → Prop
/-- a place: where one stands -/
structure At (K : PySem.W.Frag) (ρ : Tr) (h : PH) (H : Hp) (sl : Sl) (σ : L2.St) : Prop where
  sim : Sim K ρ h H
  rs : RS K ρ H sl σ
/-- what follows an outcome -/
def Good (K : PySem.W.Frag) (W : WX) (σ : L2.St) (ρ : Tr) (H : Hp) (r : Rs PV) (Q : VK) : Prop := match r with
  | .ok x h' => ∀ ρ' H' v, Tr.Le ρ ρ' → Keep ρ ρ' H H' → Sim K ρ' h' H' → RP K ρ' H' x v → Q v H'
  | .er C as h' => ∀ ρ' H' d gs, Tr.Le ρ ρ' → Keep ρ ρ' H H' → Sim K ρ' h' H' → H' d = some (.xd gs) → KPs K ρ' H' as gs → W (.ref (He.ga K C)) (some d) σ H'
  | .bad => False
def Goods (K : PySem.W.Frag) (W : WX) (σ : L2.St) (ρ : Tr) (H : Hp) (r : Rs (List PV)) (Q : List V → Hp → Prop) : Prop := match r with
  | .ok x h' => ∀ ρ' H' v, Tr.Le ρ ρ' → Keep ρ ρ' H H' → Sim K ρ' h' H' → RPs K ρ' H' x v → Q v H'
  | .er C as h' => ∀ ρ' H' d gs, Tr.Le ρ ρ' → Keep ρ ρ' H H' → Sim K ρ' h' H' → H' d = some (.xd gs) → KPs K ρ' H' as gs → W (.ref (He.ga K C)) (some d) σ H'
  | .bad => False
def GoodB (K : PySem.W.Frag) (W : WX) (σ : L2.St) (ρ : Tr) (H : Hp) (r : Rs Bool) (Q : Bool → Hp → Prop) : Prop := match r with
  | .ok b h' => ∀ ρ' H', Tr.Le ρ ρ' → Keep ρ ρ' H H' → Sim K ρ' h' H' → Q b H'
  | .er C as h' => ∀ ρ' H' d gs, Tr.Le ρ ρ' → Keep ρ ρ' H H' → Sim K ρ' h' H' → H' d = some (.xd gs) → KPs K ρ' H' as gs → W (.ref (He.ga K C)) (some d) σ H'
  | .bad => False
section
variable {W : WX} {σ : L2.St} {ρ ρ' : Tr} {H H' : Hp}
theorem Good.later {r : Rs PV} {Q : VK} (l : Tr.Le ρ ρ') (k : Keep ρ ρ' H H') (g : Good K W σ ρ H r Q) : Good K W σ ρ' H' r Q := by
  cases r with
  | ok x h => exact fun ρ2 H2 v a b c d => g ρ2 H2 v (l.trans a) (k.trans b) c d
  | er C as h => exact fun ρ2 H2 d gs a b c e f => g ρ2 H2 d gs (l.trans a) (k.trans b) c e f
  | bad => exact g
theorem Goods.later {r : Rs (List PV)} {Q : List V → Hp → Prop} (l : Tr.Le ρ ρ') (k : Keep ρ ρ' H H') (g : Goods K W σ ρ H r Q) : Goods K W σ ρ' H' r Q := by
  cases r with
  | ok x h => exact fun ρ2 H2 v a b c d => g ρ2 H2 v (l.trans a) (k.trans b) c d
  | er C as h => exact fun ρ2 H2 d gs a b c e f => g ρ2 H2 d gs (l.trans a) (k.trans b) c e f
  | bad => exact g
theorem GoodB.later {r : Rs Bool} {Q : Bool → Hp → Prop} (l : Tr.Le ρ ρ') (k : Keep ρ ρ' H H') (g : GoodB K W σ ρ H r Q) : GoodB K W σ ρ' H' r Q := by
  cases r with
  | ok x h => exact fun ρ2 H2 a b c => g ρ2 H2 (l.trans a) (k.trans b) c
  | er C as h => exact fun ρ2 H2 d gs a b c e f => g ρ2 H2 d gs (l.trans a) (k.trans b) c e f
  | bad => exact g
end
/-- the readings of what computes -/
def T (K : PySem.W.Frag) (W : WX) (m : Sl → PH → Rs PV) : TE := fun σ H Q => ∃ ρ sl h, At K ρ h H sl σ ∧ Good K W σ ρ H (m sl h) Q
def TsR (K : PySem.W.Frag) (W : WX) (m : Sl → PH → Rs (List PV)) : TA := fun σ H Q => ∃ ρ sl h, At K ρ h H sl σ ∧ Goods K W σ ρ H (m sl h) Q
def TbR (K : PySem.W.Frag) (W : WX) (m : Sl → PH → Rs Bool) : TT := fun σ H Q => ∃ ρ sl h, At K ρ h H sl σ ∧ GoodB K W σ ρ H (m sl h) Q
section
variable {W : WX} {σ : L2.St} {ρ : Tr} {H : Hp} {sl : Sl} {h : PH}
theorem At.later {ρ' : Tr} {H' : Hp} {h' : PH} (p : At K ρ h H sl σ) (l : Tr.Le ρ ρ') (k : Keep ρ ρ' H H') (s : Sim K ρ' h' H') : At K ρ' h' H' sl σ := ⟨s, p.rs.mono l k⟩
/-- an expression's value, then what hangs on it -/
theorem T.step {m : Sl → PH → Rs PV} {k : PV → PH → Rs PV} {Q Q' : VK} (p : At K ρ h H sl σ) (g : Good K W σ ρ H ((m sl h).bind k) Q)
    (n : ∀ ρ' H' h' x v, Tr.Le ρ ρ' → Keep ρ ρ' H H' → At K ρ' h' H' sl σ → RP K ρ' H' x v → Good K W σ ρ' H' (k x h') Q → Q' v H') : T K W m σ H Q' := by
  refine ⟨ρ, sl, h, p, ?_⟩
  cases e : m sl h with
  | ok x h' =>
    rw [e] at g
    exact fun ρ' H' v l kp s r => n ρ' H' h' x v l kp (p.later l kp s) r (Good.later l kp g)
  | er C as h' => rw [e] at g; exact g
  | bad => rw [e] at g; exact g
theorem T.stepB {m : Sl → PH → Rs Bool} {k : Bool → PH → Rs PV} {Q : VK} {Q' : Bool → Hp → Prop} (p : At K ρ h H sl σ) (g : Good K W σ ρ H ((m sl h).bind k) Q)
    (n : ∀ ρ' H' h' b, Tr.Le ρ ρ' → Keep ρ ρ' H H' → At K ρ' h' H' sl σ → Good K W σ ρ' H' (k b h') Q → Q' b H') : TbR K W m σ H Q' := by
  refine ⟨ρ, sl, h, p, ?_⟩
  cases e : m sl h with
  | ok x h' =>
    rw [e] at g
    exact fun ρ' H' l kp s => n ρ' H' h' x l kp (p.later l kp s) (Good.later l kp g)
  | er C as h' => rw [e] at g; exact g
  | bad => rw [e] at g; exact g
theorem T.stepL {m : Sl → PH → Rs (List PV)} {k : List PV → PH → Rs PV} {Q : VK} {Q' : List V → Hp → Prop} (p : At K ρ h H sl σ) (g : Good K W σ ρ H ((m sl h).bind k) Q)
    (n : ∀ ρ' H' h' x v, Tr.Le ρ ρ' → Keep ρ ρ' H H' → At K ρ' h' H' sl σ → RPs K ρ' H' x v → Good K W σ ρ' H' (k x h') Q → Q' v H') : TsR K W m σ H Q' := by
  refine ⟨ρ, sl, h, p, ?_⟩
  cases e : m sl h with
  | ok x h' =>
    rw [e] at g
    exact fun ρ' H' v l kp s r => n ρ' H' h' x v l kp (p.later l kp s) r (Good.later l kp g)
  | er C as h' => rw [e] at g; exact g
  | bad => rw [e] at g; exact g
theorem TsR.step {m : Sl → PH → Rs PV} {k : PV → PH → Rs (List PV)} {Q : List V → Hp → Prop} {Q' : VK} (p : At K ρ h H sl σ) (g : Goods K W σ ρ H ((m sl h).bind k) Q)
    (n : ∀ ρ' H' h' x v, Tr.Le ρ ρ' → Keep ρ ρ' H H' → At K ρ' h' H' sl σ → RP K ρ' H' x v → Goods K W σ ρ' H' (k x h') Q → Q' v H') : T K W m σ H Q' := by
  refine ⟨ρ, sl, h, p, ?_⟩
  cases e : m sl h with
  | ok x h' =>
    rw [e] at g
    exact fun ρ' H' v l kp s r => n ρ' H' h' x v l kp (p.later l kp s) r (Goods.later l kp g)
  | er C as h' => rw [e] at g; exact g
  | bad => rw [e] at g; exact g
theorem TsR.stepL {m : Sl → PH → Rs (List PV)} {k : List PV → PH → Rs (List PV)} {Q : List V → Hp → Prop} {Q' : List V → Hp → Prop} (p : At K ρ h H sl σ) (g : Goods K W σ ρ H ((m sl h).bind k) Q)
    (n : ∀ ρ' H' h' x v, Tr.Le ρ ρ' → Keep ρ ρ' H H' → At K ρ' h' H' sl σ → RPs K ρ' H' x v → Goods K W σ ρ' H' (k x h') Q → Q' v H') : TsR K W m σ H Q' := by
  refine ⟨ρ, sl, h, p, ?_⟩
  cases e : m sl h with
  | ok x h' =>
    rw [e] at g
    exact fun ρ' H' v l kp s r => n ρ' H' h' x v l kp (p.later l kp s) r (Goods.later l kp g)
  | er C as h' => rw [e] at g; exact g
  | bad => rw [e] at g; exact g
theorem TbR.step {m : Sl → PH → Rs PV} {k : PV → PH → Rs Bool} {Q : Bool → Hp → Prop} {Q' : VK} (p : At K ρ h H sl σ) (g : GoodB K W σ ρ H ((m sl h).bind k) Q)
    (n : ∀ ρ' H' h' x v, Tr.Le ρ ρ' → Keep ρ ρ' H H' → At K ρ' h' H' sl σ → RP K ρ' H' x v → GoodB K W σ ρ' H' (k x h') Q → Q' v H') : T K W m σ H Q' := by
  refine ⟨ρ, sl, h, p, ?_⟩
  cases e : m sl h with
  | ok x h' =>
    rw [e] at g
    exact fun ρ' H' v l kp s r => n ρ' H' h' x v l kp (p.later l kp s) r (GoodB.later l kp g)
  | er C as h' => rw [e] at g; exact g
  | bad => rw [e] at g; exact g
theorem TbR.stepB {m : Sl → PH → Rs Bool} {k : Bool → PH → Rs Bool} {Q Q' : Bool → Hp → Prop} (p : At K ρ h H sl σ) (g : GoodB K W σ ρ H ((m sl h).bind k) Q)
    (n : ∀ ρ' H' h' x, Tr.Le ρ ρ' → Keep ρ ρ' H H' → At K ρ' h' H' sl σ → GoodB K W σ ρ' H' (k x h') Q → Q' x H') : TbR K W m σ H Q' := by
  refine ⟨ρ, sl, h, p, ?_⟩
  cases e : m sl h with
  | ok x h' =>
    rw [e] at g
    exact fun ρ' H' l kp s => n ρ' H' h' x l kp (p.later l kp s) (GoodB.later l kp g)
  | er C as h' => rw [e] at g; exact g
  | bad => rw [e] at g; exact g
/-- an outcome at hand -/
theorem Good.here {x : PV} {v : V} {Q : VK} (p : At K ρ h H sl σ) (g : Good K W σ ρ H (.ok x h) Q) (r : RP K ρ H x v) : Q v H := g ρ H v (Tr.le_refl ρ) (Keep.refl ρ H) p.sim r
theorem GoodB.here {b : Bool} {Q : Bool → Hp → Prop} (p : At K ρ h H sl σ) (g : GoodB K W σ ρ H (.ok b h) Q) : Q b H := g ρ H (Tr.le_refl ρ) (Keep.refl ρ H) p.sim
theorem Goods.here {x : List PV} {v : List V} {Q : List V → Hp → Prop} (p : At K ρ h H sl σ) (g : Goods K W σ ρ H (.ok x h) Q) (r : RPs K ρ H x v) : Q v H := g ρ H v (Tr.le_refl ρ) (Keep.refl ρ H) p.sim r
/-- a weaker reading -/
theorem PE.weak {X : Cx} {e : Expr} {t u : TE} (h : PE X e t) (w : ∀ σ H Q, u σ H Q → t σ H Q) : PE X e u := ⟨fun pins s σ H Q I q => h.run pins s σ H Q I (w _ _ _ q)⟩
theorem PT.weak {X : Cx} {e : Expr} {t u : TT} (h : PT X e t) (w : ∀ σ H Q, u σ H Q → t σ H Q) : PT X e u := ⟨fun pins s σ H Q I q => h.run pins s σ H Q I (w _ _ _ q)⟩
theorem PW.weak {X : Cx} {e : Expr} {t u : TT} (h : PW X e t) (w : ∀ σ H Q, u σ H Q → t σ H Q) : PW X e u := ⟨fun wh pins s σ H Q I q => h.run wh pins s σ H Q I (w _ _ _ q)⟩
theorem PA.weak {X : Cx} {es : List Expr} {t u : TA} (h : PA X es t) (w : ∀ σ H Q, u σ H Q → t σ H Q) : PA X es u := ⟨fun pos pins s σ H Q I q => h.run pos pins s σ H Q I (w _ _ _ q)⟩
theorem PS.weak {X : Cx} {st : Stmt} {t u : TS} (h : PS X st t) (w : ∀ D σ H, u D σ H → t D σ H) : PS X st u := ⟨fun pins s σ H D I q => h.run pins s σ H D I (w _ _ _ q)⟩
theorem PSs.weak {X : Cx} {st : List Stmt} {t u : TS} (h : PSs X st t) (w : ∀ D σ H, u D σ H → t D σ H) : PSs X st u := ⟨fun pins s σ H D I q => h.run pins s σ H D I (w _ _ _ q)⟩
theorem PG.weak {X : Cx} {e : Expr} {t u : TG} (h : PG X e t) (w : ∀ v σ H Q, u v σ H Q → t v σ H Q) : PG X e u := ⟨fun pins s σ H v uu Q I r q => h.run pins s σ H v uu Q I r (w _ _ _ _ q)⟩
end
end R
end

section
set_option Elab.async false
set_option linter.all false
set_option maxRecDepth 100000
set_option maxHeartbeats 4000000
/-! The own language and what it does. -/
namespace R
open PySem L2

inductive Op2 where | add | sub | mul | fdiv | mod | pow
inductive Cp where | eq | ne | lt | le | gt | ge | isIn | notIn | is | isNot
/-- the built-in functions -/
inductive Bf where | len | int | bool | list | tuple | all | min | max | sorted | repr
/-- the methods of built-in types -/
inductive Bm where | append | pop | insert | index
/-- a target: one name, several -/
inductive Tg where | one (i : Nat) | many (is : List Nat)

inductive E where
  | var (i : Nat) | con (v : PV) | bad
  | bin (op : Op2) (a b : E) | neg (a : E)
  | cmp (op : Cp) (a b : E) | chn (o1 o2 : Cp) (a b c : E)
  | and (a b : E) | or (a b : E) | not (a : E) | ite (c a b : E)
  | tup (es : List E) | lst (fr : Bool) (es : List E) | star (e : E)
  | dic (ks : List Str) (es : List E)
  | ix (a b : E) | slT (a hi : E) | slF (a lo : E) | slB (a lo hi : E) | rev (a : E)
  | fld (a : E) (f : Str)
  | fn (f : Str) (es : List E) | fnK (f : Str) (perm : List Nat) (m : Nat) (es : List E) | mk (C : Str) (es : List E) | met (m : Str) (o : E) (es : List E) | app (f : E) (es : List E)
  | blt (b : Bf) (es : List E) | isi (e : E) (cs : List Str) | bm (m : Bm) (o : E) (es : List E)
  | dc (tg : Tg) (own : List Nat) (it c kx vx : E)
  | lcm (fr : Bool) (tg : Tg) (own : List Nat) (it c body : E) | cl (tg : Tg) (vs : List Nat) (it c body : E) | emit (elt : E)
  | lrg (a b : E) | lns (e : E)
  | itE (e : E) | itR (e : E) | itR2 (a b : E) | itN (e : E) | itZ (a b : E)

inductive S where
  | set (i : Nat) (e : E) | par (is : List Nat) (es : List E) | unp (is : List Nat) (e : E)
  | setIx (o i e : E) | setSl (o lo hi e : E) | setF (o : E) (f : Str) (e : E)
  | exp (e : E) | ret (e : E) | retN
  | ife (c : E) (a b : List S) | whl (c : E) (b : List S) | for (tg : Tg) (it : E) (b : List S)
  | pass | brk | cont | rais (C : Str) (es : List E) | tryx (b : List S) (C : Str) (i : Nat) (s : List S) | bad

/-! ### values -/
def sizeL : Nat := 16777216
/-- what a value tells as data -/
def dat (h : PH) : Nat → PV → Option PyData
  | 0, _ => none
  | d + 1, x => match x with
    | .non => some .none
    | .bl b => some (.bool b)
    | .int i => some (.int i)
    | .str x => some (.str x)
    | .tup l => (l.mapM (dat h d)).map .tuple
    | .fro l => (l.mapM (dat h d)).map .list
    | .ref n => match h[n]? with
      | some (.lst l) => (l.mapM (dat h d)).map .list
      | _ => none
    | .glo _ => none
def isFlat : PV → Bool
  | .non | .bl _ | .int _ | .str _ => true
  | _ => false
/-- == of flat values -/
def eqP : PV → PV → Bool
  | .non, .non => true
  | .bl a, .bl b => a == b
  | .bl a, .int b => (if a = true then 1 else 0) == b
  | .int a, .bl b => a == (if b = true then 1 else 0)
  | .int a, .int b => a == b
  | .str a, .str b => a == b
  | _, _ => false
/-- the items of a list, a tuple -/
def seqOf (h : PH) : PV → Option (List PV)
  | .tup l => some l
  | .fro l => some l
  | .ref n => match h[n]? with
    | some (.lst l) => some l
    | _ => none
  | _ => none
def tru (h : PH) : PV → Option Bool
  | .non => some false
  | .bl b => some b
  | .int i => some (i != 0)
  | .str x => if x.length ≤ sizeL then some ((x.length : Int) != 0) else none
  | .tup l => some (!l.isEmpty)
  | .fro l => some (!l.isEmpty)
  | .ref n => match h[n]? with
    | some (.lst l) => some (!l.isEmpty)
    | some (.dic l) => some (!l.isEmpty)
    | _ => none
  | .glo _ => none
def Rs.of {α : Type} (o : Option α) (h : PH) : Rs α := match o with
  | some a => .ok a h
  | none => .bad
def newO (o : PO) (h : PH) : Rs PV := .ok (.ref h.length) (h ++ [o])
/-- a new list: one that is only read by what it is handed to, or one of the heap -/
def newF (fr : Bool) (l : List PV) (h : PH) : Rs PV := if fr then .ok (.fro l) h else newO (.lst l) h

def doBin (op : Op2) (a b : PV) (h : PH) : Rs PV := match op, a, b with
  | .add, .int i, .int j => .ok (.int (i + j)) h
  | .sub, .int i, .int j => .ok (.int (i - j)) h
  | .mul, .int i, .int j => if i.natAbs.log2 + j.natAbs.log2 < 1000000 then .ok (.int (i * j)) h else .bad
  | .fdiv, .int i, .int j => if 0 < j ∧ j.natAbs.log2 < 9000 then .ok (.int (i / j)) h else .bad
  | .mod, .int i, .int j => if 0 < j then .ok (.int (i % j)) h else .bad
  | .pow, .int i, .int j => if 0 ≤ j ∧ j ≤ 1000000 ∧ i.natAbs < 2 ^ 64 then .ok (.int (i ^ j.toNat)) h else .bad
  | .add, .str x, .str y => if x.length + y.length ≤ sizeL then .ok (.str (x ++ y)) h else .bad
  | .add, .tup x, .tup y => if x.length + y.length ≤ sizeL then .ok (.tup (x ++ y)) h else .bad
  | .add, .ref n, .ref m => match h[n]?, h[m]? with
    | some (.lst x), some (.lst y) => if x.length + y.length ≤ sizeL then newO (.lst (x ++ y)) h else .bad
    | _, _ => .bad
  | .mul, .ref n, .int k => match h[n]? with
    | some (.lst x) => if -(2 ^ 63) ≤ k ∧ k < 2 ^ 63 ∧ x.length * k.toNat ≤ sizeL then newO (.lst (List.replicate k.toNat x).flatten) h else .bad
    | _ => .bad
  | _, _, _ => .bad
/-- the plain values that == tells apart as data does -/
def scalP : PV → PV → Bool
  | .non, .non => true | .non, .int _ => true | .int _, .non => true | .non, .bl _ => true | .bl _, .non => true | .non, .str _ => true | .str _, .non => true
  | .int _, .int _ => true | .bl _, .bl _ => true | .str _, .str _ => true
  | .int _, .str _ => true | .str _, .int _ => true | .bl _, .str _ => true | .str _, .bl _ => true
  | _, _ => false
/-- a comparison that needs no own def -/
def doCmp (op : Cp) (a b : PV) (h : PH) : Rs PV := match op with
  | .eq => if scalP a b then .ok (.bl (eqP a b)) h else (match dat h 60 a, dat h 60 b with
    | some d, some e => if SeqAt.shaped d && SeqAt.shaped e then .ok (.bl (PyData.eqv d e)) h else .bad
    | _, _ => .bad)
  | .ne => if scalP a b then .ok (.bl (!eqP a b)) h else (match dat h 60 a, dat h 60 b with
    | some d, some e => if SeqAt.shaped d && SeqAt.shaped e then .ok (.bl (!PyData.eqv d e)) h else .bad
    | _, _ => .bad)
  | .lt => (match a, b with
    | .int i, .int j => .ok (.bl (decide (i < j))) h
    | .str i, .str j => .ok (.bl (decide (i.cps.toList < j.cps.toList))) h
    | _, _ => .bad)
  | .le => (match a, b with
    | .int i, .int j => .ok (.bl (decide (i ≤ j))) h
    | _, _ => .bad)
  | .gt => (match a, b with
    | .int i, .int j => .ok (.bl (decide (j < i))) h
    | .str i, .str j => .ok (.bl (decide (j.cps.toList < i.cps.toList))) h
    | _, _ => .bad)
  | .ge => (match a, b with
    | .int i, .int j => .ok (.bl (decide (j ≤ i))) h
    | _, _ => .bad)
  | .isIn => (match a, b with
    | .str x, .str y => if x.length = 1 then .ok (.bl (decide ((x.cps.getD 0 0) ∈ y.cps.toList))) h else .bad
    | x, y => match seqOf h y with
      | some l => if isFlat x && l.all isFlat then .ok (.bl (l.any fun z => eqP z x)) h else .bad
      | none => .bad)
  | .notIn => (match a, b with
    | .str x, .str y => if x.length = 1 then .ok (.bl (!decide ((x.cps.getD 0 0) ∈ y.cps.toList))) h else .bad
    | x, y => match seqOf h y with
      | some l => if isFlat x && l.all isFlat then .ok (.bl (!l.any fun z => eqP z x)) h else .bad
      | none => .bad)
  | .is => (match a, b with
    | .non, .non => .ok (.bl true) h
    | _, .non => .ok (.bl false) h
    | .bl x, .bl y => .ok (.bl (x == y)) h
    | _, _ => .bad)
  | .isNot => (match a, b with
    | .non, .non => .ok (.bl false) h
    | _, .non => .ok (.bl true) h
    | .bl x, .bl y => .ok (.bl (!(x == y))) h
    | _, _ => .bad)
def lookK (l : List (Key × PV)) (k : Key) : Option PV := (l.find? fun kv => decide (kv.1 = k)).map (·.2)
def doIx (a b : PV) (h : PH) : Rs PV := match a, b with
  | .str x, .int i => if x.length ≤ sizeL then (match atI x.cps.toList i with
    | some c => .ok (.str ⟨#[c]⟩) h
    | none => .bad) else .bad
  | .ref n, .str k => (match h[n]? with
    | some (.dic l) => Rs.of (lookK l (Sum.inr k)) h
    | _ => .bad)
  | x, .int i => (match seqOf h x with
    | some l => Rs.of (atI l i) h
    | none => .bad)
  | _, _ => .bad
/-- a slice's ends -/
def cutI {α : Type} (xs : List α) (lo hi : Option Int) : List α :=
  List.take (HT.sIx xs.length xs.length hi - HT.sIx xs.length 0 lo) (List.drop (HT.sIx xs.length 0 lo) xs)
def doSl (a : PV) (lo hi : Option Int) (h : PH) : Rs PV := match a with
  | .tup l => .ok (.tup (cutI l lo hi)) h
  | .fro l => newO (.lst (cutI l lo hi)) h
  | .ref n => (match h[n]? with
    | some (.lst l) => newO (.lst (cutI l lo hi)) h
    | _ => .bad)
  | _ => .bad
def intOf : PV → Option Int
  | .int i => some i
  | _ => none

/-! ### the program -/
structure FnDf where
  name : Str
  np : Nat
  ns : Nat
  body : List S
structure Pg where
  fns : List FnDf
  /-- class, its classes above it, itself first -/
  mro : List (Str × List Str)
  /-- class, method, the def's name -/
  met : List (Str × Str × Str)
  /-- an exception's class, its fields -/
  exf : List (Str × List Str)
  /-- a class, the fields of its instances that no class of it has a name for -/
  fld : List (Str × List Str)
  /-- own classes that isinstance asks for -/
  icl : List Str
  /-- global defs that are handed about as values -/
  glb : List Str
def Pg.fn (P : Pg) (f : Str) : Option FnDf := P.fns.find? fun d => d.name == f
def Pg.meth (P : Pg) (C m : Str) : Option Str := (P.met.find? fun r => r.1 == C && r.2.1 == m).map (·.2.2)
def Pg.hasF (P : Pg) (C f : Str) : Bool := (P.fld.lookup C).any (·.contains f)

def strEqS : Str := "__eq__"
def strInit : Str := "__init__"
/-- the kind of a value: a built-in type, an own class -/
inductive Kd where | ty (n : String) | own (C : Str)
def kdOf (h : PH) : PV → Option Kd
  | .non => some (.ty "NoneType")
  | .bl _ => some (.ty "bool")
  | .int _ => some (.ty "int")
  | .str _ => some (.ty "str")
  | .tup _ => some (.ty "tuple")
  | .fro _ => some (.ty "list")
  | .ref n => match h[n]? with
    | some (.lst _) => some (.ty "list")
    | some (.dic _) => some (.ty "dict")
    | some (.ins C _) => some (.own C)
    | none => none
  | .glo _ => none
/-- the built-in types that are asked for -/
def btOf (c : Str) : Option String := if c = ("int" : Str) then some "int" else if c = ("bool" : Str) then some "bool" else if c = ("str" : Str) then some "str" else if c = ("list" : Str) then some "list"
  else if c = ("tuple" : Str) then some "tuple" else if c = ("dict" : Str) then some "dict" else none
/-- isinstance: by the name of a built-in class or of an own one -/
def isiOne (P : Pg) (h : PH) (x : PV) (c : Str) : Option Bool := match kdOf h x, btOf c with
  | some (.ty t), some b => some (t == b || t == "bool" && b == "int")
  | some (.ty _), none => if P.icl.contains c then some false else none
  | some (.own C), some _ => (P.mro.lookup C).map fun _ => false
  | some (.own C), none => if P.icl.contains c then (P.mro.lookup C).map (·.contains c) else none
  | none, _ => none
def isiAny (P : Pg) (h : PH) (x : PV) : List Str → Option Bool
  | [] => some false
  | c :: r => match isiOne P h x c with
    | some true => some true
    | some false => isiAny P h x r
    | none => none

/-! ### sources of loops -/
inductive Src where
  | its (l : List PV) | ref (n : Nat) | enum (s : Src) | zip (a b : Src)
/-- what a turn yields: a value, a new pair -/
inductive Itm where | one (x : PV) | two (x y : PV)
def Src.at (h : PH) : Src → Nat → Option PV
  | .its l, i => l[i]?
  | .ref n, i => match h[n]? with
    | some (.lst l) => l[i]?
    | _ => none
  | _, _ => none
def Src.get (h : PH) : Src → Nat → Option Itm
  | .enum s, i => (s.at h i).map fun x => .two (.int i) x
  | .zip a b, i => (a.at h i).bind fun x => (b.at h i).map fun y => .two x y
  | s, i => (s.at h i).map .one
def Src.len (h : PH) : Src → Option Nat
  | .its l => some l.length
  | .ref n => match h[n]? with
    | some (.lst l) => some l.length
    | _ => none
  | .enum s => s.len h
  | .zip a b => (a.len h).bind fun n => (b.len h).map fun m => min n m
def srcOf (h : PH) : PV → Option Src
  | .tup l => some (.its l)
  | .fro l => some (.its l)
  | .str x => some (.its (x.cps.toList.map fun c => .str ⟨#[c]⟩))
  | .ref n => match h[n]? with
    | some (.lst _) => some (.ref n)
    | _ => none
  | _ => none
/-- enumerate: over a list, a tuple -/
def srcN (h : PH) (x : PV) : Option Src := match x with
  | .str _ => none
  | x => (srcOf h x).map .enum
def isTupP : PV → Bool
  | .tup _ => true
  | _ => false
/-- zip: over two lists, two tuples -/
def srcZ (h : PH) (x y : PV) : Option Src := match x, y with
  | .str _, _ => none
  | _, .str _ => none
  | x, y => if isTupP x = isTupP y then (srcOf h x).bind fun s => (srcOf h y).map fun t => .zip s t else none
def rngL (lo : Int) (n : Nat) : List PV := (List.range n).map fun (i : Nat) => .int (lo + (i : Int))
/-- range -/
def srcR (x y : PV) : Option Src := match x, y with
  | .int i, .int j => if -(2 ^ 62) ≤ i ∧ i < 2 ^ 62 ∧ -(2 ^ 62) ≤ j ∧ j < 2 ^ 62 then some (.its (rngL i (j - i).toNat)) else none
  | _, _ => none
def setAll (is : List Nat) (l : List PV) (sl : Sl) : Sl := (is.zip l).foldl (fun s p => s.set p.1 (some p.2)) sl
def asgV (tg : Tg) (x : PV) (h : PH) (sl : Sl) : Option Sl := match tg with
  | .one i => some (sl.set i (some x))
  | .many is => match x with
    | .tup l => if l.length = is.length then some (setAll is l sl) else none
    | .ref n => (match h[n]? with
      | some (.lst l) => if l.length = is.length then some (setAll is l sl) else none
      | _ => none)
    | _ => none
def asg (tg : Tg) (x : Itm) (h : PH) (sl : Sl) : Option Sl := match x with
  | .one x => asgV tg x h sl
  | .two x y => (match tg with
    | .many [i, j] => some ((sl.set i (some x)).set j (some y))
    | _ => none)
/-- what a statement comes to -/
inductive Out where
  | nx (sl : Sl) (h : PH) | rt (v : PV) (h : PH) | bk (sl : Sl) (h : PH) | ct (sl : Sl) (h : PH)
  | er (C : Str) (as : List (Str × PV)) (sl : Sl) (h : PH) | bad
def Out.bind (r : Out) (k : Sl → PH → Out) : Out := match r with
  | .nx sl h => k sl h
  | r => r
def Rs.out {α : Type} (r : Rs α) (sl : Sl) (k : α → PH → Out) : Out := match r with
  | .ok a h => k a h
  | .er C as h => .er C as sl h
  | .bad => .bad
@[simp] theorem Rs.out_ok {α : Type} (a : α) (h : PH) (sl : Sl) (k : α → PH → Out) : (Rs.ok a h).out sl k = k a h := rfl
@[simp] theorem Out.bind_nx (sl : Sl) (h : PH) (k : Sl → PH → Out) : (Out.nx sl h).bind k = k sl h := rfl
@[simp] theorem Out.bind_rt (v : PV) (h : PH) (k : Sl → PH → Out) : (Out.rt v h).bind k = .rt v h := rfl

/-- no exception leaves -/
def Rs.noEr {α : Type} : Rs α → Rs α
  | .er .. => .bad
  | r => r
/-- a clause's turns, with what hangs on each -/
def clGo (tg : Tg) (vs : List Nat) (c : Sl → PH → Rs Bool) (body : Sl → PH → List PV → Rs (List PV)) (src : Src) (sl : Sl) : Nat → Nat → List PV → PH → Rs (List PV)
  | 0, i, acc, h => if (src.len h).any (· ≤ i) then .ok acc h else .bad
  | n + 1, i, acc, h => match src.get h i with
    | none => if (src.len h).any (· ≤ i) then .ok acc h else .bad
    | some x => match asg tg x h (wipeS sl vs) with
      | none => .bad
      | some s1 => (c s1 h).bind fun b h1 => match b with
        | false => clGo tg vs c body src sl n (i + 1) acc h1
        | true => (body s1 h1 acc).bind fun acc2 h2 => clGo tg vs c body src sl n (i + 1) acc2 h2

/-- a key that a dict may have -/
def keyP : PV → Option Key
  | .int i => some (.inl i)
  | .str x => some (.inr x)
  | _ => none
def putKP (l : List (Key × PV)) (k : Key) (v : PV) : List (Key × PV) := if l.any (fun kv => decide (kv.1 = k)) then l.map (fun kv => if kv.1 = k then (kv.1, v) else kv) else l ++ [(k, v)]
/-- a dict comprehension's turns -/
def dcGo (tg : Tg) (vs : List Nat) (c : Sl → PH → Rs Bool) (kx vx : Sl → PH → Rs PV) (src : Src) (sl : Sl) : Nat → Nat → List (Key × PV) → PH → Rs (List (Key × PV))
  | 0, i, acc, h => if (src.len h).any (· ≤ i) then .ok acc h else .bad
  | n + 1, i, acc, h => match src.get h i with
    | none => if (src.len h).any (· ≤ i) then .ok acc h else .bad
    | some x => match asg tg x h (wipeS sl vs) with
      | none => .bad
      | some s1 => (c s1 h).bind fun b h1 => match b with
        | false => dcGo tg vs c kx vx src sl n (i + 1) acc h1
        | true => (kx s1 h1).bind fun k h2 => (vx s1 h2).bind fun v h3 => match keyP k with
          | some k => if acc.length < sizeL then dcGo tg vs c kx vx src sl n (i + 1) (putKP acc k v) h3 else .bad
          | none => .bad
/-! ### built-ins -/
def isTupP0 : PV → Bool
  | .tup _ => true
  | _ => false
def blsOf : List PV → Option (List Bool)
  | [] => some []
  | .bl b :: r => (blsOf r).map (b :: ·)
  | _ => none
def bLen (x : PV) (h : PH) : Rs PV := match x with
  | .str x => if x.length ≤ sizeL then .ok (.int x.length) h else .bad
  | .ref n => (match h[n]? with
    | some (.lst l) => .ok (.int l.length) h
    | some (.dic l) => .ok (.int l.length) h
    | _ => .bad)
  | .tup l => .ok (.int l.length) h
  | .fro l => .ok (.int l.length) h
  | _ => .bad
def bInt (x : PV) (h : PH) : Rs PV := match x with
  | .int i => .ok (.int i) h
  | .bl k => .ok (.int (if k then 1 else 0)) h
  | _ => .bad
def bBool (x : PV) (h : PH) : Rs PV := match x with
  | .int i => .ok (.bl (i != 0)) h
  | .bl k => .ok (.bl k) h
  | _ => .bad
def bList (x : PV) (h : PH) : Rs PV := match seqOf h x with
  | some l => newO (.lst l) h
  | none => .bad
def bTuple (x : PV) (h : PH) : Rs PV := match seqOf h x with
  | some l => .ok (.tup l) h
  | none => .bad
def bAll (x : PV) (h : PH) : Rs PV := match x with
  | .fro l => (match blsOf l with
    | some bs => .ok (.bl (bs.all id)) h
    | none => .bad)
  | _ => .bad
/-- lists of texts, of ints -/
def strsOf : List PV → Option (List Str)
  | [] => some []
  | .str x :: r => (strsOf r).map (x :: ·)
  | _ => none
def intsOf : List PV → Option (List Int)
  | [] => some []
  | .int x :: r => (intsOf r).map (x :: ·)
  | _ => none
def leS (a b : Str) : Bool := !decide (b.cps.toList < a.cps.toList)
/-- so many unlike ones among the first i -/
def unl (xs : List Str) : Nat → Nat
  | 0 => 0
  | i + 1 => if (xs.take i).any (· == xs.getD i Str.empty) then unl xs i else unl xs i + 1
/-- list(range(x, y)) -/
def lrgM (x y : PV) (h : PH) : Rs PV := match srcR x y with
  | some (.its l) => if l.length ≤ sizeL then newO (.lst l) h else .bad
  | _ => .bad
/-- len(set(x)) of texts -/
def lnsM (x : PV) (h : PH) : Rs PV := match seqOf h x with
  | some l => if isTupP0 x then .bad else (match strsOf l with
    | some ss => if ss.length ≤ 1000 then .ok (.int (unl ss ss.length : Nat)) h else .bad
    | none => .bad)
  | none => .bad
def insS (x : Str) : List Str → List Str
  | [] => [x]
  | y :: r => if leS x y then x :: y :: r else y :: insS x r
def sortS : List Str → List Str
  | [] => []
  | x :: r => insS x (sortS r)
def insI (x : Int) : List Int → List Int
  | [] => [x]
  | y :: r => if x ≤ y then x :: y :: r else y :: insI x r
def sortI : List Int → List Int
  | [] => []
  | x :: r => insI x (sortI r)
def bSorted (x : PV) (h : PH) : Rs PV := match seqOf h x with
  | some l => if isTupP0 x then .bad else (match strsOf l with
    | some ss => if ss.length < 64 then newO (.lst ((sortS ss).map .str)) h else .bad
    | none => match intsOf l with
      | some is => newO (.lst ((sortI is).map .int)) h
      | none => .bad)
  | none => .bad
def bRepr (x : PV) (h : PH) : Rs PV := match x with
  | .int i => if i.natAbs.log2 < 1920 then .ok (.str (toString i)) h else .bad
  | .bl _ | .non | .str _ | .glo _ => .bad
  | x => match dat h 60 x with
    | some d => if SeqAt.shaped d && d.showable && !d.hasDict && decide (d.shown.length ≤ sizeL) then .ok (.str d.shown) h else .bad
    | none => .bad
def bMin (x y : PV) (h : PH) : Rs PV := match x, y with
  | .int i, .int j => .ok (.int (if j < i then j else i)) h
  | _, _ => .bad
def bMax (x y : PV) (h : PH) : Rs PV := match x, y with
  | .int i, .int j => .ok (.int (if j > i then j else i)) h
  | _, _ => .bad
def on1 (f : PV → PH → Rs PV) (as : List PV) (h : PH) : Rs PV := match as with
  | [x] => f x h
  | _ => .bad
def on2 (f : PV → PV → PH → Rs PV) (as : List PV) (h : PH) : Rs PV := match as with
  | [x, y] => f x y h
  | _ => .bad
def doBlt : Bf → List PV → PH → Rs PV
  | .len => on1 bLen
  | .int => on1 bInt
  | .bool => on1 bBool
  | .list => on1 bList
  | .tuple => on1 bTuple
  | .all => on1 bAll
  | .min => on2 bMin
  | .max => on2 bMax
  | .sorted => on1 bSorted
  | .repr => on1 bRepr
def mAppend (n : Nat) (l : List PV) (x : PV) (h : PH) : Rs PV := if l.length < sizeL then .ok .non (h.set n (.lst (l ++ [x]))) else .bad
def mPop (n : Nat) (l : List PV) (i : Int) (h : PH) : Rs PV := match seqIndex? i l.length with
  | some k => (match l[k]? with
    | some y => if -(2 ^ 63) ≤ i ∧ i < 2 ^ 63 then .ok y (h.set n (.lst (l.eraseIdx k))) else .bad
    | none => .bad)
  | none => .bad
def mInsert (n : Nat) (l : List PV) (i : Int) (x : PV) (h : PH) : Rs PV :=
  if l.length < sizeL ∧ 0 ≤ i ∧ i < 2 ^ 63 then .ok .non (h.set n (.lst (l.take i.toNat ++ [x] ++ l.drop i.toNat))) else .bad
def mIndex (l : List PV) (x : PV) (h : PH) : Rs PV := if isFlat x && l.all isFlat then (match l.findIdx? (fun z => eqP z x) with
  | some j => .ok (.int j) h
  | none => .bad) else .bad
/-- a list's method, a tuple's -/
def doBmL (m : Bm) (o : PV) (as : List PV) (h : PH) : Rs PV := match o with
  | .ref n => (match h[n]? with
    | some (.lst l) => (match m, as with
      | .append, [x] => mAppend n l x h
      | .pop, [.int i] => mPop n l i h
      | .insert, [.int i, x] => mInsert n l i x h
      | .index, [x] => mIndex l x h
      | _, _ => .bad)
    | _ => .bad)
  | _ => .bad
def doBmT (m : Bm) (o : PV) (as : List PV) (h : PH) : Rs PV := match o with
  | .tup l => (match m, as with
    | .index, [x] => mIndex l x h
    | _, _ => .bad)
  | _ => .bad
/-- whose method: a list's, a tuple's -/
def bmK (m : Bm) (h : PH) : PV → Option Bool
  | .tup _ => match m with
    | .index => some false
    | _ => none
  | .ref n => match h[n]? with
    | some (.lst _) => some true
    | _ => none
  | _ => none
def doBm (k : Bool) (m : Bm) (o : PV) (as : List PV) (h : PH) : Rs PV := match k with
  | true => doBmL m o as h
  | false => doBmT m o as h
/-- a field is put -/
def putP (f : Str) (v : PV) : List (Str × PV) → List (Str × PV)
  | [] => [(f, v)]
  | (g, w) :: r => if g = f then (f, v) :: r else (g, w) :: putP f v r
/-! ### the run -/
def whlGo (c : Sl → PH → Rs Bool) (b : Sl → PH → Out) : Nat → Sl → PH → Out
  | 0, _, _ => .bad
  | n + 1, sl, h => (c sl h).out sl fun t h1 => match t with
    | true => (match b sl h1 with
      | .nx s h => whlGo c b n s h
      | .ct s h => whlGo c b n s h
      | .bk s h => .nx s h
      | r => r)
    | false => .nx sl h1
def forGo (src : Src) (tg : Tg) (b : Sl → PH → Out) : Nat → Nat → Sl → PH → Out
  | 0, i, sl, h => if (src.len h).any (· ≤ i) then .nx sl h else .bad
  | n + 1, i, sl, h => match src.get h i with
    | none => if (src.len h).any (· ≤ i) then .nx sl h else .bad
    | some x => match asg tg x h sl with
      | none => .bad
      | some s1 => match b s1 h with
        | .nx s h => forGo src tg b n (i + 1) s h
        | .ct s h => forGo src tg b n (i + 1) s h
        | .bk s h => .nx s h
        | r => r
/-- turns of a while at most -/
def WF : Nat := 1000000
abbrev FF := Str → List PV → PH → Rs PV
section
variable (P : Pg) (F : FF)
def lookF (h : PH) (o : PV) (f : Str) : Option PV := match o with
  | .ref n => (match h[n]? with
    | some (.ins C fs) => if P.hasF C f then fs.lookup f else none
    | _ => none)
  | _ => none
def methOf (h : PH) (o : PV) (m : Str) : Option Str := match o with
  | .ref n => (match h[n]? with
    | some (.ins C fs) => if (fs.lookup m).isSome then none else P.meth C m
    | _ => none)
  | _ => none
/-- the class of an instance -/
def clsOf (h : PH) : PV → Option Str
  | .ref n => match h[n]? with
    | some (.ins C _) => some C
    | _ => none
  | _ => none
/-- both of one class -/
def kin (h : PH) (a b : PV) : Bool := match clsOf h a, clsOf h b with
  | some C, some D => C == D
  | _, _ => false
def isBl (f : Bool → Bool) (v : PV) (h : PH) : Rs PV := match v with
  | .bl r => .ok (.bl (f r)) h
  | _ => .bad
/-- ==, !=: by an own __eq__ -/
def cmpE (op : Cp) (a b : PV) (h : PH) : Rs PV := match op with
  | .eq => (match methOf P h a strEqS with
    | some g => if kin h a b then (Rs.noEr (F g [a, b] h)).bind (isBl id) else .bad
    | none => doCmp .eq a b h)
  | .ne => (match methOf P h a strEqS with
    | some g => if kin h a b then (Rs.noEr (F g [a, b] h)).bind (isBl not) else .bad
    | none => doCmp .ne a b h)
  | op => doCmp op a b h
def initName (C : Str) : Option Str := P.meth C strInit
mutual
def ev : E → Sl → PH → Rs PV
  | .var i, sl, h => Rs.of (sl.getD i none) h
  | .con v, _, h => .ok v h
  | .bad, _, _ => .bad
  | .star _, _, _ => .bad
  | .bin op a b, sl, h => (ev a sl h).bind fun x h => (ev b sl h).bind fun y h => doBin op x y h
  | .neg a, sl, h => (ev a sl h).bind fun x h => match x with
    | .int i => .ok (.int (-i)) h
    | _ => .bad
  | .cmp op a b, sl, h => (ev a sl h).bind fun x h => (ev b sl h).bind fun y h => cmpE P F op x y h
  | .chn o1 o2 a b c, sl, h => (ev a sl h).bind fun x h => (ev b sl h).bind fun y h => (doCmp o1 x y h).bind fun r h => match r with
    | .bl true => (ev c sl h).bind fun z h => doCmp o2 y z h
    | .bl false => .ok (.bl false) h
    | _ => .bad
  | .and a b, sl, h => (ev a sl h).bind fun x h => match tru h x with
    | some true => ev b sl h
    | some false => .ok x h
    | none => .bad
  | .or a b, sl, h => (ev a sl h).bind fun x h => match tru h x with
    | some true => .ok x h
    | some false => ev b sl h
    | none => .bad
  | .not a, sl, h => (ev a sl h).bind fun x h => match tru h x with
    | some k => .ok (.bl (!k)) h
    | none => .bad
  | .ite c a b, sl, h => (ev c sl h).bind fun x h => match tru h x with
    | some true => ev a sl h
    | some false => ev b sl h
    | none => .bad
  | .tup es, sl, h => (evs es sl h).bind fun l h => if l.length ≤ sizeL then .ok (.tup l) h else .bad
  | .lst fr es, sl, h => (evs es sl h).bind fun l h => if l.length ≤ sizeL then newF fr l h else .bad
  | .dic ks es, sl, h => (evs es sl h).bind fun l h => if ks.length = l.length then newO (.dic ((ks.map Sum.inr).zip l)) h else .bad
  | .ix a b, sl, h => (ev a sl h).bind fun x h => (ev b sl h).bind fun y h => doIx x y h
  | .slT a hi, sl, h => (ev a sl h).bind fun x h => (ev hi sl h).bind fun y h => match intOf y with
    | some j => doSl x none (some j) h
    | none => .bad
  | .slF a lo, sl, h => (ev a sl h).bind fun x h => (ev lo sl h).bind fun y h => match intOf y with
    | some j => doSl x (some j) none h
    | none => .bad
  | .slB a lo hi, sl, h => (ev a sl h).bind fun x h => (ev lo sl h).bind fun y h => match intOf y with
    | some i => (ev hi sl h).bind fun z h => match intOf z with
      | some j => doSl x (some i) (some j) h
      | none => .bad
    | none => .bad
  | .rev a, sl, h => (ev a sl h).bind fun x h => match x with
    | .ref n => (match h[n]? with
      | some (.lst l) => newO (.lst l.reverse) h
      | _ => .bad)
    | _ => .bad
  | .fld a f, sl, h => (ev a sl h).bind fun x h => Rs.of (lookF P h x f) h
  | .fn f es, sl, h => (evs es sl h).bind fun l h => F f l h
  | .fnK f perm m es, sl, h => (evs es sl h).bind fun l h => if l.length = m then F f (perm.map fun i => l.getD i .non) h else .bad
  | .mk C es, sl, h => (evs es sl h).bind fun l h => match initName P C with
    | some g => (F g (.ref h.length :: l) (h ++ [.ins C []])).bind fun v h2 => match v with
      | .non => .ok (.ref h.length) h2
      | _ => .bad
    | none => .bad
  | .met m o es, sl, h => (ev o sl h).bind fun x h => match methOf P h x m with
    | some g => (evs es sl h).bind fun l h => F g (x :: l) h
    | none => .bad
  | .app f es, sl, h => (ev f sl h).bind fun x h => match x with
    | .glo g => if P.glb.contains g then (evs es sl h).bind fun l h => F g l h else .bad
    | _ => .bad
  | .blt b es, sl, h => (evs es sl h).bind fun l h => doBlt b l h
  | .isi e cs, sl, h => (ev e sl h).bind fun x h => match isiAny P h x cs with
    | some k => .ok (.bl k) h
    | none => .bad
  | .bm m o es, sl, h => (ev o sl h).bind fun x h => match bmK m h x with
    | some k => (evs es sl h).bind fun l h => doBm k m x l h
    | none => .bad
  | .lcm fr tg own it c body, sl, h => (evIt it sl h).bind fun src h =>
      (Rs.noEr (match src.len h with
        | some n => clGo tg own (fun s h => (ev c s h).bind fun x h => Rs.of (tru h x) h) (fun s h acc => evC body s h acc) src sl n 0 [] h
        | none => .bad)).bind fun l h => newF fr l h
  | .dc tg own it c kx vx, sl, h => (evIt it sl h).bind fun src h =>
      (Rs.noEr (match src.len h with
        | some n => dcGo tg own (fun s h => (ev c s h).bind fun x h => Rs.of (tru h x) h) (fun s h => ev kx s h) (fun s h => ev vx s h) src sl n 0 [] h
        | none => .bad)).bind fun l h => newO (.dic l) h
  | .lrg a b, sl, h => (ev a sl h).bind fun x h => (ev b sl h).bind fun y h => lrgM x y h
  | .lns e, sl, h => (ev e sl h).bind fun x h => lnsM x h
  | .cl .., _, _ | .emit _, _, _ => .bad
  | .itE _, _, _ | .itR _, _, _ | .itR2 _ _, _, _ | .itN _, _, _ | .itZ _ _, _, _ => .bad
def evs : List E → Sl → PH → Rs (List PV)
  | [], _, h => .ok [] h
  | e :: es, sl, h => match e with
    | .star e => (ev e sl h).bind fun x h => match seqOf h x with
      | some l => (evs es sl h).bind fun r h => .ok (l ++ r) h
      | none => .bad
    | e => (ev e sl h).bind fun x h => (evs es sl h).bind fun r h => .ok (x :: r) h
def evC : E → Sl → PH → List PV → Rs (List PV)
  | .emit elt, sl, h, acc => (ev elt sl h).bind fun y h => if acc.length < sizeL then .ok (acc ++ [y]) h else .bad
  | .cl tg vs it c body, sl, h, acc => (evIt it sl h).bind fun src h => match src.len h with
    | some n => clGo tg vs (fun s h => (ev c s h).bind fun x h => Rs.of (tru h x) h) (fun s h acc => evC body s h acc) src sl n 0 acc h
    | none => .bad
  | _, _, _, _ => .bad
def evIt : E → Sl → PH → Rs Src
  | .itE e, sl, h => (ev e sl h).bind fun x h => Rs.of (srcOf h x) h
  | .itN e, sl, h => (ev e sl h).bind fun x h => Rs.of (srcN h x) h
  | .itZ a b, sl, h => (ev a sl h).bind fun x h => (ev b sl h).bind fun y h => Rs.of (srcZ h x y) h
  | .itR e, sl, h => (ev e sl h).bind fun x h => Rs.of (srcR (.int 0) x) h
  | .itR2 a b, sl, h => (ev a sl h).bind fun x h => (ev b sl h).bind fun y h => Rs.of (srcR x y) h
  | _, _, _ => .bad
end
/-- a test -/
def tst (e : E) (sl : Sl) (h : PH) : Rs Bool := (ev P F e sl h).bind fun x h => Rs.of (tru h x) h
mutual
def ex : S → Sl → PH → Out
  | .set i e, sl, h => (ev P F e sl h).out sl fun v h => .nx (sl.set i (some v)) h
  | .par is es, sl, h => (evs P F es sl h).out sl fun l h => if l.length = is.length then .nx (setAll is l sl) h else .bad
  | .unp is e, sl, h => (ev P F e sl h).out sl fun v h => match asgV (.many is) v h sl with
    | some s => .nx s h
    | none => .bad
  | .setIx o i e, sl, h => (ev P F e sl h).out sl fun v h => (ev P F o sl h).out sl fun x h => (ev P F i sl h).out sl fun k h => match x, k with
    | .ref n, .int k => (match h[n]? with
      | some (.lst l) => (match ixN l.length k with
        | some j => .nx sl (h.set n (.lst (l.set j v)))
        | none => .bad)
      | _ => .bad)
    | _, _ => .bad
  | .setSl o lo hi e, sl, h => (ev P F e sl h).out sl fun v h => (ev P F o sl h).out sl fun x h => (ev P F lo sl h).out sl fun a h => (ev P F hi sl h).out sl fun b h => match x, v, a, b with
    | .ref n, .ref m, .int a, .int c => if n = m then .bad else (match h[n]?, h[m]? with
      | some (.lst l), some (.lst r) => if 0 ≤ a ∧ a ≤ c ∧ c ≤ l.length ∧ l.length + r.length ≤ sizeL then .nx sl (h.set n (.lst (l.take a.toNat ++ r ++ l.drop c.toNat))) else .bad
      | _, _ => .bad)
    | _, _, _, _ => .bad
  | .setF o f e, sl, h => (ev P F e sl h).out sl fun v h => (ev P F o sl h).out sl fun x h => match x with
    | .ref n => (match h[n]? with
      | some (.ins C fs) => if P.hasF C f && decide (fs.length < 100) then .nx sl (h.set n (.ins C (putP f v fs))) else .bad
      | _ => .bad)
    | _ => .bad
  | .exp e, sl, h => (ev P F e sl h).out sl fun _ h => .nx sl h
  | .ret e, sl, h => (ev P F e sl h).out sl fun v h => .rt v h
  | .retN, _, h => .rt .non h
  | .ife c a b, sl, h => (tst P F c sl h).out sl fun t h => match t with
    | true => exs a sl h
    | false => exs b sl h
  | .whl c b, sl, h => whlGo (fun s h => tst P F c s h) (fun s h => exs b s h) WF sl h
  | .for tg it b, sl, h => (evIt P F it sl h).out sl fun src h => match src.len h with
    | some n => forGo src tg (fun s h => exs b s h) n 0 sl h
    | none => .bad
  | .pass, sl, h => .nx sl h
  | .brk, sl, h => .bk sl h
  | .cont, sl, h => .ct sl h
  | .rais C es, sl, h => (evs P F es sl h).out sl fun l h => match P.exf.lookup C with
    | some fs => if fs.length = l.length then .er C (fs.zip l) sl h else .bad
    | none => .bad
  | .tryx .., _, _ => .bad
  | .bad, _, _ => .bad
def exs : List S → Sl → PH → Out
  | [], sl, h => .nx sl h
  | s :: r, sl, h => (ex s sl h).bind fun sl h => exs r sl h
end
/-- a def's run -/
def run (d : FnDf) (as : List PV) (h : PH) : Rs PV := match exs P F d.body (as.map some ++ List.replicate (d.ns - as.length) none) h with
  | .nx _ h => .ok .non h
  | .rt v h => .ok v h
  | .er C fs _ h => .er C fs h
  | _ => .bad
end
def Fn (P : Pg) : Nat → FF
  | 0 => fun _ _ _ => .bad
  | n + 1 => fun f as h => match P.fn f with
    | some d => if as.length = d.np then run P (Fn P n) d as h else .bad
    | none => .bad
end R
end

section
set_option Elab.async false
set_option linter.all false
set_option maxRecDepth 100000
set_option maxHeartbeats 4000000
/-! From the model's trees to the own language. -/
namespace R
open PySem L2

/-- what a module's name is: a def with its parameters, a class, a constant, nothing (a built-in's own name) -/
inductive Gk where | fn (ps : List Str) | cls | con (v : PV) | free
abbrev GE := Str → Option Gk
/-- what is known of the module's names; own: the methods of own classes; kwc: the calls by keywords: a def, the names, the places -/
structure CP where
  g : GE
  own : List Str
  kwc : List (Str × List Str × List Nat)

def isVis (sc : Scope) (x : Str) : Bool := match sc.names.lookup x with
  | some .local => true
  | some .cell => true
  | some .free => true
  | _ => false
def isLoc (sc : Scope) (x : Str) : Bool := match sc.names.lookup x with
  | some .local => true
  | some .cell => true
  | _ => false
def isGlb (sc : Scope) (x : Str) : Bool := match sc.names.lookup x with
  | some .globalImplicit => true
  | _ => false
def dbg (x : Str) : Bool := x == ("__debug__" : Str) || x == ("__classdict__" : Str) || x == ("__name__" : Str)
/-- the place of a name in N -/
def ixOf (N : List Str) (x : Str) : Option Nat := N.findIdx? (· == x)
def cConst : Const → Option PV
  | .none => some .non
  | .bool b => some (.bl b)
  | .int i => some (.int i)
  | .str x => some (.str x)
  | _ => none
def cOp : Operator → Option Op2
  | .Add => some .add
  | .Sub => some .sub
  | .Mult => some .mul
  | .FloorDiv => some .fdiv
  | .Mod => some .mod
  | .Pow => some .pow
  | _ => none
def cCp : CmpOp → Cp
  | .Eq => .eq | .NotEq => .ne | .Lt => .lt | .LtE => .le | .Gt => .gt | .GtE => .ge | .Is => .is | .IsNot => .isNot | .In => .isIn | .NotIn => .notIn
def cName (cp : CP) (N : List Str) (sc : Scope) (x : Str) : Option E :=
  if dbg x then none else
  if isVis sc x then (ixOf N x).map .var
  else if isGlb sc x then (match cp.g x with
    | some (.con v) => some (.con v)
    | some (.fn _) => some (.con (.glo x))
    | _ => none)
  else none
/-- a written target -/
def cTg1 (N : List Str) (sc : Scope) : Expr → Option Nat
  | .Name x _ => if isLoc sc x && !dbg x then ixOf N x else none
  | _ => none
def cTg (N : List Str) (sc : Scope) : Expr → Option Tg
  | .Tuple ts _ _ => (ts.mapM (cTg1 N sc)).map .many
  | e => (cTg1 N sc e).map .one
/-- a class by its name -/
def cCls (cp : CP) (sc : Scope) : Expr → Option Str
  | .Name x _ => if isGlb sc x && !dbg x then (match cp.g x with
    | some .cls => if (btOf x).isNone then some x else none
    | some .free => if (btOf x).isSome then some x else none
    | _ => none) else none
  | _ => none
def isTupE : Expr → Bool
  | .Tuple .. => true
  | _ => false
def cClss (cp : CP) (sc : Scope) : Expr → Option (List Str)
  | .Tuple es _ _ => es.mapM (cCls cp sc)
  | e => (cCls cp sc e).map fun c => [c]
def ownOf (N : List Str) (scope : Scope) : List (Str × Nat) := scope.names.filterMap fun y => match y.2 with
  | .local => (ixOf N y.1).map fun i => (y.1, i)
  | .cell => (ixOf N y.1).map fun i => (y.1, i)
  | _ => none
def bltOf (f : Str) : Option Bf :=
  if f = ("len" : Str) then some .len else if f = ("int" : Str) then some .int else if f = ("bool" : Str) then some .bool else if f = ("list" : Str) then some .list
  else if f = ("tuple" : Str) then some .tuple else if f = ("all" : Str) then some .all else if f = ("min" : Str) then some .min else if f = ("max" : Str) then some .max else if f = ("sorted" : Str) then some .sorted else if f = ("repr" : Str) then some .repr else none
def bmOf (m : Str) : Option Bm :=
  if m = ("append" : Str) then some .append else if m = ("pop" : Str) then some .pop else if m = ("insert" : Str) then some .insert else if m = ("index" : Str) then some .index else none
def isStar : Expr → Bool
  | .Starred .. => true
  | _ => false
def noStar (es : List Expr) : Bool := es.all fun e => !isStar e
/-- none, one with a star, or a first one without -/
def argsOk : List Expr → Bool
  | [] => true
  | [_] => true
  | e :: _ => !isStar e
/-- no super() -/
def noSup : Expr → Bool
  | .Call (.Name _ _) [] [] _ => false
  | _ => true
def Tg.ix : Tg → List Nat
  | .one i => [i]
  | .many is => is
/-- the slots that a clause and those behind it store to -/
def slotsOf : E → List Nat
  | .cl _ vs _ _ _ => vs
  | _ => []
def isStarE : E → Bool
  | .star _ => true
  | _ => false
def subL (a b : List Nat) : Bool := a.all fun i => b.contains i
def cKeys : List (Option Expr) → Option (List Str)
  | [] => some []
  | some (.Constant (.str x) _ _) :: r => (cKeys r).map fun r' => x :: r'
  | _ => none
def kwNames : List Keyword → Option (List Str)
  | [] => some []
  | ⟨some n, _, _⟩ :: r => (kwNames r).map fun r' => n :: r'
  | _ => none
def isFree : Option Gk → Bool
  | some .free => true
  | _ => false
/-- the ends of range(a, b), where an argument is that alone -/
def rngArgs (cp : CP) (sc : Scope) : List Expr → Option (Expr × Expr)
  | [.Call (.Name r _) [a, b] [] _] => if r = ("range" : Str) ∧ isGlb sc r = true ∧ isFree (cp.g r) = true ∧ isStar a = false ∧ isStar b = false then some (a, b) else none
  | _ => none
/-- what set(a) is made of, where an argument is that alone -/
def setArg (cp : CP) (sc : Scope) : List Expr → Option Expr
  | [.Call (.Name r _) [a] [] _] => if r = ("set" : Str) ∧ isGlb sc r = true ∧ isFree (cp.g r) = true ∧ isStar a = false then some a else none
  | _ => none
section
variable (cp : CP) (N : List Str)
mutual
def cE : Nat → Bool → Scope → Expr → Option E
  | 0, _, _, _ => none
  | n + 1, fr, sc, e => match e with
    | .Constant c _ _ => (cConst c).map .con
    | .Name x _ => cName cp N sc x
    | .BinOp a op b _ => (cOp op).bind fun o => (cE n false sc a).bind fun a' => (cE n false sc b).map fun b' => .bin o a' b'
    | .UnaryOp op a _ => (match op with
      | .Not => (cE n false sc a).map .not
      | .USub => (cE n false sc a).map .neg
      | _ => none)
    | .BoolOp op vs _ => cB n op sc vs
    | .Compare a ops bs _ => (match ops, bs with
      | [op], [b] => (cE n false sc a).bind fun a' => (cE n false sc b).map fun b' => .cmp (cCp op) a' b'
      | [o1, o2], [b, c] => (cE n false sc a).bind fun a' => (cE n false sc b).bind fun b' => (cE n false sc c).map fun c' => .chn (cCp o1) (cCp o2) a' b' c'
      | _, _ => none)
    | .IfExp t a b _ => (cE n false sc t).bind fun t' => (cE n false sc a).bind fun a' => (cE n false sc b).map fun b' => .ite t' a' b'
    | .Tuple es _ _ => (cEs n false sc es).map .tup
    | .List es _ => (cEs n false sc es).map (.lst fr)
    | .Dict ks vs _ => if noStar vs then (cKeys ks).bind fun ks' => (cEs n false sc vs).bind fun vs' => if ks.length = vs.length ∧ ks ≠ [] ∧ ks.length ≤ 15 ∧ ks'.length ≤ 15 ∧ ks'.Nodup then some (.dic ks' vs') else none else none
    | .Subscript a s _ => (match s with
      | .Slice l u st _ => (match l, u, st with
        | none, none, some (.UnaryOp .USub (.Constant (.int 1) _ _) _) => (cE n false sc a).map .rev
        | some l, none, none => (cE n false sc a).bind fun a' => (cE n false sc l).map fun l' => .slF a' l'
        | none, some u, none => (cE n false sc a).bind fun a' => (cE n false sc u).map fun u' => .slT a' u'
        | some l, some u, none => (cE n false sc a).bind fun a' => (cE n false sc l).bind fun l' => (cE n false sc u).map fun u' => .slB a' l' u'
        | _, _, _ => none)
      | i => (cE n false sc a).bind fun a' => (cE n false sc i).map fun i' => .ix a' i')
    | .Attribute a f _ => if noSup a then (cE n false sc a).map fun a' => .fld a' f else none
    | .Call f as ks pos => (match f with
      | .Name f _ => if dbg f then none else
        if isVis sc f then (if ks.isEmpty && argsOk as then (ixOf N f).bind fun i => (cEs n false sc as).map fun es => .app (.var i) es else none)
        else if isGlb sc f then (match cp.g f with
          | some (.fn ps) => if ks.isEmpty then (if argsOk as then (cEs n false sc as).map fun es => .fn f es else none)
            else if as.isEmpty then (kwNames ks).bind fun kn => (cp.kwc.find? fun r => r.1 == f && r.2.1 == kn).bind fun r => (cKws n sc ks).map fun es => .fnK f r.2.2 kn.length es else none
          | some .cls => if ks.isEmpty && argsOk as then (cEs n false sc as).map fun es => .mk f es else none
          | some .free => if ks.isEmpty && noStar as then
              (if f = ("isinstance" : Str) then (match as with
                | [e, c] => (cE n false sc e).bind fun e' => (cClss cp sc c).bind fun cs => if cs ≠ [] ∧ cs.length ≤ 100 then some (.isi e' cs) else none
                | _ => none)
              else if f = ("list" : Str) ∧ (rngArgs cp sc as).isSome = true then (rngArgs cp sc as).bind fun p => (cE n false sc p.1).bind fun a' => (cE n false sc p.2).map fun b' => .lrg a' b'
              else if f = ("len" : Str) ∧ (setArg cp sc as).isSome = true then (setArg cp sc as).bind fun a => (cE n true sc a).map .lns
              else if !as.isEmpty then (bltOf f).bind fun b => (cEs n true sc as).map fun es => .blt b es else none)
            else none
          | _ => none)
        else none
      | .Attribute o m apos => if ks.isEmpty && noSup o then
          (if cp.own.contains m then (match as with
            | [.Starred e _] => (cE n false sc o).bind fun o' => (cE n false sc e).map fun e' => .met m o' [.star e']
            | as => if noStar as && decide (as.length < 30) && apos.endLine == pos.line then (cE n false sc o).bind fun o' => (cEs n false sc as).map fun es => .met m o' es else none)
          else if noStar as && decide (as.length < 30) && apos.endLine == pos.line && !as.isEmpty then (bmOf m).bind fun b => (cE n false sc o).bind fun o' => (cEs n false sc as).map fun es => .bm b o' es else none)
        else none
      | .Call f2 bs js p => if ks.isEmpty && argsOk as then (cE n false sc (.Call f2 bs js p)).bind fun f' => (cEs n false sc as).map fun es => .app f' es else none
      | _ => none)
    | .ListComp elt gens scope _ => (match gens with
      | ⟨t, i, ifs, a⟩ :: gs => if a = 0 && blkC N sc scope (ownOf N scope) then
          (cTg N scope t).bind fun tg => (cIt n (isTupE t) sc i).bind fun it => (cIfs n (relS scope sc) ifs).bind fun c => (cCl n (relS scope sc) scope elt gs).bind fun b =>
            if subL (tg.ix ++ slotsOf b) ((ownOf N scope).map (·.2)) then some (.lcm fr tg ((ownOf N scope).map (·.2)) it c b) else none
        else none
      | [] => none)
    | .DictComp kx vx gens scope _ => (match gens with
      | [⟨t, i, ifs, a⟩] => if a = 0 && blkC N sc scope (ownOf N scope) then
          (cTg N scope t).bind fun tg => (cIt n (isTupE t) sc i).bind fun it => (cIfs n (relS scope sc) ifs).bind fun c => (cE n false (relS scope sc) kx).bind fun k' => (cE n false (relS scope sc) vx).bind fun v' =>
            if subL tg.ix ((ownOf N scope).map (·.2)) then some (.dc tg ((ownOf N scope).map (·.2)) it c k' v') else none
        else none
      | _ => none)
    | _ => none
def cCl : Nat → Scope → Scope → Expr → List Comprehension → Option E
  | 0, _, _, _, _ => none
  | n + 1, sc, scope, elt, gens => match gens with
    | [] => (cE n false sc elt).map .emit
    | ⟨t, i, ifs, a⟩ :: gs => if a = 0 then
        (cTg N scope t).bind fun tg => (cIt n (isTupE t) sc i).bind fun it => (cIfs n sc ifs).bind fun c => (cCl n sc scope elt gs).map fun b => .cl tg (tg.ix ++ slotsOf b) it c b
      else none
def cEs : Nat → Bool → Scope → List Expr → Option (List E)
  | 0, _, _, _ => none
  | n + 1, fr, sc, es => match es with
    | [] => some []
    | e :: r => (match e with
      | .Starred e _ => (cE n fr sc e).bind fun e' => (cEs n fr sc r).map fun r' => .star e' :: r'
      | e => (cE n fr sc e).bind fun e' => if isStarE e' then none else (cEs n fr sc r).map fun r' => e' :: r')
def cB : Nat → BoolOp → Scope → List Expr → Option E
  | 0, _, _, _ => none
  | n + 1, op, sc, es => match es with
    | [] => none
    | [e] => cE n false sc e
    | e :: e2 :: r => (cE n false sc e).bind fun e' => (cB n op sc (e2 :: r)).map fun r' => match op with
      | .And => .and e' r'
      | .Or => .or e' r'
def cKws : Nat → Scope → List Keyword → Option (List E)
  | 0, _, _ => none
  | n + 1, sc, ks => match ks with
    | [] => some []
    | ⟨_, e, _⟩ :: r => (cE n false sc e).bind fun e' => if isStarE e' then none else (cKws n sc r).map fun r' => e' :: r'
def cIfs : Nat → Scope → List Expr → Option E
  | 0, _, _ => none
  | n + 1, sc, es => match es with
    | [] => some (.con (.bl true))
    | [c] => cE n false sc c
    | _ => none
def cIt : Nat → Bool → Scope → Expr → Option E
  | 0, _, _, _ => none
  | n + 1, tt, sc, e => match e with
    | .Call (.Name f q) as ks p =>
      if isGlb sc f && ks.isEmpty && noStar as && !dbg f then (match cp.g f with
        | some .free =>
          if f = ("range" : Str) then (match as with
            | [a] => (cE n false sc a).map .itR
            | [a, b] => (cE n false sc a).bind fun a' => (cE n false sc b).map fun b' => .itR2 a' b'
            | _ => none)
          else if f = ("enumerate" : Str) then (match as with
            | [a] => if tt then (cE n false sc a).map .itN else none
            | _ => none)
          else if f = ("zip" : Str) then (match as with
            | [a, b] => if tt then (cE n false sc a).bind fun a' => (cE n false sc b).map fun b' => .itZ a' b' else none
            | _ => none)
          else (cE n true sc (.Call (.Name f q) as ks p)).map .itE
        | _ => (cE n true sc (.Call (.Name f q) as ks p)).map .itE)
      else (cE n true sc (.Call (.Name f q) as ks p)).map .itE
    | e => (cE n true sc e).map .itE
end
end
end R
end

section
set_option Elab.async false
set_option linter.all false
set_option maxRecDepth 100000
set_option maxHeartbeats 4000000
/-! What the own operations on values are in the hand layer. -/
namespace R
open PySem PySem.Spec PyProof.Rows L2

theorem sizeL_eq : sizeL = sizeLine := by rw [sizeLine_eq]; rfl
section
variable {X : Cx} {K : PySem.W.Frag} {W : WX} {σ : L2.St} {ρ : Tr} {H : Hp} {sl : Sl} {h : PH} {Q : VK}

/-- a value function's reading -/
def V2 (K : PySem.W.Frag) (f : PV → PV → PH → Rs PV) : R2 := fun x y H Q => ∃ W σ ρ sl h p q, At K ρ h H sl σ ∧ RP K ρ H p x ∧ RP K ρ H q y ∧ Good K W σ ρ H (f p q h) Q
def V1 (K : PySem.W.Frag) (f : PV → PH → Rs PV) : V → Hp → VK → Prop := fun x H Q => ∃ W σ ρ sl h p, At K ρ h H sl σ ∧ RP K ρ H p x ∧ Good K W σ ρ H (f p h) Q
def VL (K : PySem.W.Frag) (f : List PV → PH → Rs PV) : List V → Hp → VK → Prop := fun xs H Q => ∃ W σ ρ sl h ps, At K ρ h H sl σ ∧ RPs K ρ H ps xs ∧ Good K W σ ρ H (f ps h) Q
def VM (K : PySem.W.Frag) (f : PV → List PV → PH → Rs PV) : V → List V → Hp → VK → Prop := fun x xs H Q => ∃ W σ ρ sl h p ps, At K ρ h H sl σ ∧ RP K ρ H p x ∧ RPs K ρ H ps xs ∧ Good K W σ ρ H (f p ps h) Q

theorem Good.new {o : PO} {u : HO} (g : Good K W σ ρ H (newO o h) Q) (p : At K ρ h H sl σ) {a : Addr} (ha : H a = none) (r : RO K (ρ.add a) (upd H a u) a o) : Q (.ref a) (upd H a u) :=
  g (ρ.add a) (upd H a u) (.ref a) (Tr.le_add ρ a) (Keep.add ha (upd_same_of ha)) (p.sim.new (upd_same_of ha) ha r) (.ref (by rw [← p.sim.len]; exact Tr.get_add ρ a))
theorem Good.newL {l : List PV} {vs : List V} (g : Good K W σ ρ H (newO (.lst l) h) Q) (p : At K ρ h H sl σ) (r : RPs K ρ H l vs) : ∀ a, H a = none → Q (.ref a) (upd H a (.lst vs)) := fun a ha =>
  g.new p ha ⟨vs, upd_same, r.mono (Tr.le_add ρ a) (Keep.add ha (upd_same_of ha))⟩
theorem Good.newT {l : List PV} {vs : List V} (g : Good K W σ ρ H (.ok (.tup l) h) Q) (p : At K ρ h H sl σ) (r : RPs K ρ H l vs) : ∀ a (o : Obj), H a = none → o.dict = none → Q (.ref a) (upd H a (.frz o (.tup vs))) := fun a o ha hd =>
  g ρ (upd H a (.frz o (.tup vs))) (.ref a) (Tr.le_refl ρ) (Keep.new ha) (p.sim.grow (upd_same_of ha)) (.tup (.inl ⟨o, upd_same, hd⟩) (r.mono (Tr.le_refl ρ) (Keep.new ha)))
/-- an object changed, an answer -/
theorem Good.put {n : Nat} {a : Addr} {o : PO} {u : HO} {x : PV} {v : V} (g : Good K W σ ρ H (.ok x (h.set n o)) Q) (p : At K ρ h H sl σ) (e : ρ.l[n]? = some a) (r : RO K ρ (upd H a u) a o) (rx : RP K ρ (upd H a u) x v) : Q v (upd H a u) :=
  let ⟨s, k⟩ := p.sim.write e r
  g ρ (upd H a u) v (Tr.le_refl ρ) k s rx
theorem RP.lstAt (S : Sim K ρ h H) {n : Nat} {l : List PV} {v : V} (r : RP K ρ H (.ref n) v) (e : h[n]? = some (.lst l)) : ∃ a vs, v = .ref a ∧ ρ.l[n]? = some a ∧ H a = some (.lst vs) ∧ RPs K ρ H l vs := by
  cases r with
  | ref e2 =>
    obtain ⟨vs, h1, h2⟩ := S.obj n _ _ e e2
    exact ⟨_, vs, rfl, e2, h1, h2⟩
theorem RP.dicAt (S : Sim K ρ h H) {n : Nat} {l : List (Key × PV)} {v : V} (r : RP K ρ H (.ref n) v) (e : h[n]? = some (.dic l)) : ∃ a vs, v = .ref a ∧ ρ.l[n]? = some a ∧ H a = some (.dK vs) ∧ KPs K ρ H l vs := by
  cases r with
  | ref e2 =>
    obtain ⟨vs, h1, h2⟩ := S.obj n _ _ e e2
    exact ⟨_, vs, rfl, e2, h1, h2⟩
theorem RP.insAt (S : Sim K ρ h H) {n : Nat} {C : Str} {fs : List (Str × PV)} {v : V} (r : RP K ρ H (.ref n) v) (e : h[n]? = some (.ins C fs)) : ∃ a dx gs, v = .ref a ∧ ρ.l[n]? = some a ∧ H a = some (.ins (He.ga K C) dx gs) ∧ KPs K ρ H fs gs := by
  cases r with
  | ref e2 =>
    obtain ⟨dx, gs, h1, h2⟩ := S.obj n _ _ e e2
    exact ⟨_, dx, gs, rfl, e2, h1, h2⟩
/-- a list or a tuple that is read -/
theorem RP.seq (S : Sim K ρ h H) {x : PV} {l : List PV} {v : V} (r : RP K ρ H x v) (e : seqOf h x = some l) : ∃ a vs, v = .ref a ∧ (SqL K H a vs ∨ SqT K H a vs) ∧ RPs K ρ H l vs := by
  cases x with
  | tup l' =>
    cases r with
    | tup h1 h2 => simp only [seqOf, Option.some.injEq] at e; subst e; exact ⟨_, _, rfl, .inr h1.sq, h2⟩
  | fro l' =>
    simp only [seqOf, Option.some.injEq] at e; subst e
    cases r with
    | fro h1 h2 => exact ⟨_, _, rfl, .inl (.inl (.inr ⟨_, h1⟩)), h2⟩
    | frl _ _ h1 h2 => exact ⟨_, _, rfl, .inl (SqL.of h1), h2⟩
    | frk h1 h2 => exact ⟨_, _, rfl, .inl (h1 H), h2⟩
  | ref n =>
    simp only [seqOf] at e
    split at e
    · rename_i l' e2
      cases e
      obtain ⟨a, vs, rfl, _, h1, h2⟩ := r.lstAt S e2
      exact ⟨a, vs, rfl, .inl (SqL.of h1), h2⟩
    · cases e
  | _ => cases e

/-! ### tuples, known whole -/
/-- a new tuple, all of it told -/
theorem laidT {pins : List (Addr × Obj)} {s : Shared} {us : List Value} {vs : List V} {h' : Heap} {t' : Nat} (I : L2.Inv X pins σ H s) (r : Vals vs us) (hz : vs.length ≤ sizeLine) (k : ∀ b o, s.heap.get? b = some o → h'.get? b = some o) {a : Addr} (ha : s.heap.objs.size ≤ a)
    (e : h'.get? a = some { cls := .type "tuple", data := .seq us.toArray }) :
    L2.Inv X pins σ (upd H a (.frz { cls := .type "tuple", data := .seq us.toArray } (.tup vs))) { s with heap := h', toks := t' } :=
  I.laid k ha ⟨e, hz, us, r, ⟨_, e, rfl, _, rfl⟩⟩
def rNewT (vs : List V) (H : Hp) (Q : VK) : Prop := ∀ a (o : Obj), H a = none → o.dict = none → Q (.ref a) (upd H a (.frz o (.tup vs)))
theorem pe_tupF {es : List Expr} {t : TA} {pos : Pos} {x1} (h : PA X es t) : PE X (.Tuple es x1 pos) (fun σ H Q => t σ H fun xs H1 => xs.length ≤ sizeLine ∧ rNewT xs H1 Q) := by
  refine ⟨fun pins s σ H Q I hq => ?_⟩
  refine wpAny_Tuple_spliced (thn (h.run pos pins s σ H _ I hq) fun us s1 ⟨xs, H1, I1, r, z, q⟩ => ⟨by rw [← r.length]; exact z, ?_⟩)
  exact ⟨.ref s1.heap.objs.size, _, laidT (t' := s1.toks) I1 r z (fun b u e => Heap.get?_push_of_some _ e) (Nat.le_refl _) (Heap.get?_push_size _ rfl), rfl, q _ _ (I1.hok.fresh (Nat.le_refl _)) rfl⟩
def rTupOf (K : PySem.W.Frag) : List V → Hp → VK → Prop := fun xs H Q => ∃ p ys, xs = [.ref p] ∧ ((SqL K H p ys ∧ rNewT ys H Q) ∨ (SqT K H p ys ∧ Q (.ref p) H))
theorem call_tupF : CallR X (.type "tuple") (rTupOf X.K) := by
  intro pins s σ H xs us Q I r h
  obtain ⟨p, ys, rfl, h⟩ := h
  obtain ⟨u, rfl, rx⟩ := vals1 r
  cases rx
  rcases h with ⟨hq, q⟩ | ⟨hq, q⟩
  · obtain ⟨its, r', pl, hz⟩ := I.list hq
    have hlen := r'.length
    refine call_tuple_list pl.isList (fun h' kp => ?_) (by simp only [List.size_toArray] <;> omega)
    have I1 : L2.Inv X pins σ H { s with heap := h' } := I.kept (t' := s.toks) kp
    exact ⟨.ref h'.objs.size, _, laidT (t' := s.toks) I1 r' hz (fun b o e => Heap.get?_push_of_some _ e) (Nat.le_refl _) (Heap.get?_push_size _ rfl), rfl, q _ _ (I1.hok.fresh (Nat.le_refl _)) rfl⟩
  · obtain ⟨its, r', pl, hz⟩ := I.tuple hq
    exact call_tuple_same pl ⟨.ref p, H, I, rfl, q⟩
def rCatF (K : PySem.W.Frag) : R2 := fun x y H Q => ∃ a b xs ys, x = .ref a ∧ y = .ref b ∧ SqT K H a xs ∧ SqT K H b ys ∧ xs.length + ys.length ≤ sizeLine ∧
  (xs = [] → Q (.ref b) H) ∧ (xs ≠ [] → ys = [] → Q (.ref a) H) ∧ (xs ≠ [] → ys ≠ [] → rNewT (xs ++ ys) H Q)
theorem op_catF : OpR X (binaryOp .Add) (rCatF X.K) := by
  intro pins s σ H x y v u Q I rx ry h
  obtain ⟨a, b, xs, ys, rfl, rfl, ha, hb, hz, q0, q1, q2⟩ := h
  cases rx
  cases ry
  obtain ⟨its, r1, p1, _⟩ := I.tuple ha
  obtain ⟨its2, r2, p2, _⟩ := I.tuple hb
  by_cases hx : xs = []
  · subst hx
    cases r1
    exact cat_tup0 p1 p2 ⟨.ref b, H, I, rfl, q0 rfl⟩
  · refine HT.cat_tup p1 p2 (fun z => hx (r1.nil_iff.mp z)) (fun z => ⟨.ref a, H, I, rfl, q1 hx (r2.nil_iff.mp z)⟩) (fun z => ?_) (by rw [← r1.length, ← r2.length]; exact hz)
    exact ⟨.ref s.heap.objs.size, _, laidT (t' := s.toks) I (r1.append r2) (by rw [List.length_append]; exact hz) (fun b ob q => Heap.get?_push_of_some _ q) (Nat.le_refl _) (Heap.get?_push_size _ rfl), rfl, q2 hx (fun w => z (r2.nil_iff.mpr w)) _ _ (I.hok.fresh (Nat.le_refl _)) rfl⟩
def rSlF (K : PySem.W.Frag) : V → Option Int → Option Int → Hp → VK → Prop := fun x lo hi H Q => ∃ a xs, x = .ref a ∧ SqT K H a xs ∧
  (HT.sIx xs.length 0 lo = 0 ∧ HT.sIx xs.length xs.length hi = xs.length → Q (.ref a) H) ∧ (¬ (HT.sIx xs.length 0 lo = 0 ∧ HT.sIx xs.length xs.length hi = xs.length) → rNewT (cutV xs lo hi) H Q)
theorem sl_tupF : SlR X (rSlF X.K) := by
  intro pins s σ H x v vl vu lo hi sl Q I rx hs pl pu h
  obtain ⟨a, xs, rfl, hx, q1, q2⟩ := h
  cases rx
  obtain ⟨its, r, ht, hz⟩ := I.tuple hx
  have hlen : its.toArray.size = xs.length := by rw [List.size_toArray]; exact r.length.symm
  refine ⟨"tuple", _, slot_tuple_getitem.lookup, ht.typeIs, ?_⟩
  by_cases hw : HT.sIx xs.length 0 lo = 0 ∧ HT.sIx xs.length xs.length hi = xs.length
  · exact getItem_tuple_whole ht hs pl pu (by rw [hlen]; exact hw) ⟨.ref a, H, I, rfl, q1 hw⟩
  · refine HT.getItem_tuple_cut ht hs pl pu (by rw [hlen]; exact hw) ?_ (by rw [hlen]; exact hz)
    rw [hlen]
    exact ⟨.ref s.heap.objs.size, _, laidT (t' := s.toks) I ((r.drop (HT.sIx xs.length 0 lo)).take (HT.sIx xs.length xs.length hi - HT.sIx xs.length 0 lo)) (Nat.le_trans (cutV_length xs lo hi) hz) (fun b ob q => Heap.get?_push_of_some _ q) (Nat.le_refl _) (Heap.get?_push_size _ rfl), rfl, q2 hw _ _ (I.hok.fresh (Nat.le_refl _)) rfl⟩

/-! ### operators -/
theorem RPs.nil_of {xs : List PV} (r : RPs K ρ H xs []) : xs = [] := by cases r; rfl
theorem bin_add : OpR X (binaryOp .Add) (V2 X.K (doBin .add)) := by
  rintro pins s σ H x y v u Q I rx ry ⟨W, σ', ρ, sl, h, p, q, A, r1, r2, g⟩
  cases p <;> cases q <;> first | exact False.elim g | skip
  · cases r1; cases r2
    exact op_add pins s σ H _ _ v u Q I rx ry ⟨_, _, rfl, rfl, g.here A (.int _)⟩
  · cases r1; cases r2
    simp only [doBin] at g
    split at g
    · rename_i hz
      exact op_add_str pins s σ H _ _ v u Q I rx ry ⟨_, _, rfl, rfl, by rw [← sizeL_eq]; exact hz, g.here A (.str _)⟩
    · exact g.elim
  · rename_i l1 l2
    cases r1 with
    | @tup a _ vs a1 b1 =>
      cases r2 with
      | @tup b _ ws a2 b2 =>
        simp only [doBin] at g
        split at g
        · rename_i hz
          rw [b1.length, b2.length, sizeL_eq] at hz
          refine op_catF pins s σ H _ _ v u Q I rx ry ⟨a, b, vs, ws, rfl, rfl, a1.sq, a2.sq, hz, fun e => ?_, fun _ e => ?_, fun _ _ => g.newT A (b1.append b2)⟩
          · subst e
            rw [b1.nil_of, List.nil_append] at g
            exact g.here A (.tup a2 b2)
          · subst e
            rw [b2.nil_of, List.append_nil] at g
            exact g.here A (.tup a1 b1)
        · exact g.elim
  · simp only [doBin] at g
    split at g
    · rename_i l1 l2 e1 e2
      split at g
      · rename_i hz
        obtain ⟨a, vs, rfl, _, h1, h2⟩ := r1.lstAt A.sim e1
        obtain ⟨b, ws, rfl, _, h3, h4⟩ := r2.lstAt A.sim e2
        rw [h2.length, h4.length, sizeL_eq] at hz
        exact op_cat pins s σ H _ _ v u Q I rx ry ⟨_, _, _, _, rfl, rfl, h1, h3, hz, g.newL A (h2.append h4)⟩
      · exact g.elim
    · exact g.elim
theorem bin_sub : OpR X (binaryOp .Sub) (V2 X.K (doBin .sub)) := by
  rintro pins s σ H x y v u Q I rx ry ⟨W, σ', ρ, sl, h, p, q, A, r1, r2, g⟩
  cases p <;> cases q <;> first | exact False.elim g | skip
  cases r1; cases r2
  exact op_sub pins s σ H _ _ v u Q I rx ry ⟨_, _, rfl, rfl, g.here A (.int _)⟩
theorem RPs.replicate {l : List PV} {vs : List V} (r : RPs K ρ H l vs) : ∀ n : Nat, RPs K ρ H (List.replicate n l).flatten (List.replicate n vs).flatten
  | 0 => .nil
  | n + 1 => by
    rw [List.replicate_succ, List.replicate_succ, List.flatten_cons, List.flatten_cons]
    exact r.append (RPs.replicate r n)
theorem bin_mul : OpR X (binaryOp .Mult) (V2 X.K (doBin .mul)) := by
  rintro pins s σ H x y v u Q I rx ry ⟨W, σ', ρ, sl, h, p, q, A, r1, r2, g⟩
  cases p <;> cases q <;> first | exact False.elim g | skip
  · cases r1; cases r2
    simp only [doBin] at g
    split at g
    · rename_i hz
      exact op_mulW pins s σ H _ _ v u Q I rx ry ⟨_, _, rfl, rfl, hz, g.here A (.int _)⟩
    · exact g.elim
  · rename_i n k
    simp only [doBin] at g
    split at g
    · rename_i l e1
      split at g
      · rename_i hz
        obtain ⟨a, vs, rfl, _, h1, h2⟩ := r1.lstAt A.sim e1
        cases r2
        rw [h2.length, sizeL_eq] at hz
        exact op_rep pins s σ H _ _ v u Q I rx ry ⟨_, _, _, rfl, rfl, h1, hz.1, hz.2.1, hz.2.2, g.newL A (h2.replicate _)⟩
      · exact g.elim
    · exact g.elim
theorem bin_fdiv : OpR X (binaryOp .FloorDiv) (V2 X.K (doBin .fdiv)) := by
  rintro pins s σ H x y v u Q I rx ry ⟨W, σ', ρ, sl, h, p, q, A, r1, r2, g⟩
  cases p <;> cases q <;> first | exact False.elim g | skip
  cases r1; cases r2
  simp only [doBin] at g
  split at g
  · rename_i hz
    exact op_fdivW pins s σ H _ _ v u Q I rx ry ⟨_, _, rfl, rfl, hz, g.here A (.int _)⟩
  · exact g.elim
theorem bin_mod : OpR X (binaryOp .Mod) (V2 X.K (doBin .mod)) := by
  rintro pins s σ H x y v u Q I rx ry ⟨W, σ', ρ, sl, h, p, q, A, r1, r2, g⟩
  cases p <;> cases q <;> first | exact False.elim g | skip
  cases r1; cases r2
  simp only [doBin] at g
  split at g
  · rename_i hz
    exact op_mod pins s σ H _ _ v u Q I rx ry ⟨_, _, rfl, rfl, hz, g.here A (.int _)⟩
  · exact g.elim
theorem bin_pow : OpR X (binaryOp .Pow) (V2 X.K (doBin .pow)) := by
  rintro pins s σ H x y v u Q I rx ry ⟨W, σ', ρ, sl, h, p, q, A, r1, r2, g⟩
  cases p <;> cases q <;> first | exact False.elim g | skip
  cases r1; cases r2
  simp only [doBin] at g
  split at g
  · rename_i hz
    exact op_pow pins s σ H _ _ v u Q I rx ry ⟨_, _, rfl, rfl, hz, g.here A (.int _)⟩
  · exact g.elim
theorem bin_ok {op : Operator} {o : Op2} (e : cOp op = some o) : OpR X (binaryOp op) (V2 X.K (doBin o)) := by
  cases op <;> simp only [cOp, Option.some.injEq, reduceCtorEq] at e <;> subst e
  · exact bin_add
  · exact bin_sub
  · exact bin_mul
  · exact bin_mod
  · exact bin_pow
  · exact bin_fdiv

/-! ### comparisons -/
theorem RPs.dps {d : Nat} (f : ∀ {x : PV} {v : V} {q : PyData}, RP K ρ H x v → dat h d x = some q → Dp K H v q) : ∀ {xs : List PV} {vs : List V} {ds : List PyData}, RPs K ρ H xs vs → xs.mapM (dat h d) = some ds → DpAll K H vs ds
  | _, _, _, .nil, e => by
    simp only [List.mapM_nil, Option.pure_def, Option.some.injEq] at e
    subst e
    exact .nil
  | _, _, _, .cons a b, e => by
    rw [List.mapM_cons] at e
    simp only [Option.pure_def, Option.bind_eq_bind, Option.bind_eq_some_iff, Option.some.injEq] at e
    obtain ⟨q, e1, qs, e2, rfl⟩ := e
    exact .cons (f a e1) (RPs.dps f b e2)
theorem RP.dp (S : Sim K ρ h H) : ∀ (d : Nat) {x : PV} {v : V} {q : PyData}, RP K ρ H x v → dat h d x = some q → Dp K H v q
  | 0, _, _, _, _, e => by simp [dat] at e
  | d + 1, x, v, q, r, e => by
    cases x with
    | non => cases r; simp only [dat, Option.some.injEq] at e; subst e; exact .non
    | bl b => cases r; simp only [dat, Option.some.injEq] at e; subst e; exact .bl b
    | int b => cases r; simp only [dat, Option.some.injEq] at e; subst e; exact .int b
    | str b => cases r; simp only [dat, Option.some.injEq] at e; subst e; exact .str b
    | tup l =>
      simp only [dat, Option.map_eq_some_iff] at e
      obtain ⟨ds, e1, rfl⟩ := e
      cases r with
      | tup h1 h2 => exact .tup h1.sq (h2.dps (fun a b => RP.dp S d a b) e1)
    | fro l =>
      simp only [dat, Option.map_eq_some_iff] at e
      obtain ⟨ds, e1, rfl⟩ := e
      cases r with
      | fro h1 h2 => exact .lst (.inl (.inr ⟨_, h1⟩)) (h2.dps (fun a b => RP.dp S d a b) e1)
      | frl _ _ h1 h2 => exact .lst (SqL.of h1) (h2.dps (fun a b => RP.dp S d a b) e1)
      | frk h1 h2 => exact .lst (h1 H) (h2.dps (fun a b => RP.dp S d a b) e1)
    | ref n =>
      simp only [dat] at e
      split at e
      · rename_i l e2
        simp only [Option.map_eq_some_iff] at e
        obtain ⟨ds, e1, rfl⟩ := e
        obtain ⟨a, vs, rfl, _, h1, h2⟩ := r.lstAt S e2
        exact .lst (SqL.of h1) (h2.dps (fun a b => RP.dp S d a b) e1)
      · cases e
    | glo x => simp [dat] at e
theorem RP.flat {x : PV} {v : V} (r : RP K ρ H x v) (e : isFlat x = true) : flatV v = true := by
  cases r <;> first | rfl | cases e
theorem RP.eqv {x y : PV} {v w : V} (r : RP K ρ H x v) (s : RP K ρ H y w) (e : isFlat x = true) (f : isFlat y = true) : eqV v w = eqP x y := by
  cases r <;> first | (cases e; done) | (cases s <;> first | rfl | (cases f; done))
theorem RPs.flat : ∀ {xs : List PV} {vs : List V}, RPs K ρ H xs vs → xs.all isFlat = true → vs.all flatV = true
  | _, _, .nil, _ => rfl
  | _, _, .cons a b, e => by
    rw [List.all_cons, Bool.and_eq_true] at e
    rw [List.all_cons, a.flat e.1, b.flat e.2]
    rfl
theorem RPs.inv {x : PV} {v : V} (r : RP K ρ H x v) (f : isFlat x = true) : ∀ {xs : List PV} {vs : List V}, RPs K ρ H xs vs → xs.all isFlat = true → inV v vs = xs.any fun z => eqP z x
  | _, _, .nil, _ => rfl
  | _, _, .cons a b, e => by
    rw [List.all_cons, Bool.and_eq_true] at e
    have ih := RPs.inv r f b e.2
    unfold inV at ih ⊢
    rw [List.any_cons, List.any_cons, ih, a.eqv r e.1 f]
theorem scal_ok {x y : PV} {v w : V} (r : RP K ρ H x v) (q : RP K ρ H y w) (e : scalP x y = true) : L2.scal v w = true ∧ decide (v = w) = eqP x y := by
  cases r <;> first | (exact absurd e Bool.false_ne_true; done) | skip
  all_goals (cases q <;> first | (exact absurd e Bool.false_ne_true; done) | (refine ⟨rfl, ?_⟩; rw [Bool.eq_iff_iff]; simp [eqP]))
theorem cmp_eq (hu : X.A.units + 64 < cLine) : OpR X (compareOp .Eq) (V2 X.K (doCmp .eq)) := by
  rintro pins s σ H x y v u Q I rx ry ⟨W, σ', ρ, sl, h, p, q, A, r1, r2, g⟩
  simp only [doCmp] at g
  split at g
  · rename_i hs
    obtain ⟨z1, z2⟩ := scal_ok r1 r2 hs
    exact op_eq pins s σ H x y v u Q I rx ry ⟨z1, by rw [z2]; exact g.here A (.bl _)⟩
  split at g
  · rename_i d e e1 e2
    split at g
    · rename_i hs
      rw [Bool.and_eq_true] at hs
      exact op_eqD hu pins s σ H _ _ v u Q I rx ry ⟨d, e, r1.dp A.sim _ e1, r2.dp A.sim _ e2, hs.1, hs.2, g.here A (.bl _)⟩
    · exact g.elim
  · exact g.elim
theorem cmp_ne (hu : X.A.units + 64 < cLine) : OpR X (compareOp .NotEq) (V2 X.K (doCmp .ne)) := by
  rintro pins s σ H x y v u Q I rx ry ⟨W, σ', ρ, sl, h, p, q, A, r1, r2, g⟩
  simp only [doCmp] at g
  split at g
  · rename_i hs
    obtain ⟨z1, z2⟩ := scal_ok r1 r2 hs
    exact op_ne pins s σ H x y v u Q I rx ry ⟨z1, by rw [z2]; exact g.here A (.bl _)⟩
  split at g
  · rename_i d e e1 e2
    split at g
    · rename_i hs
      rw [Bool.and_eq_true] at hs
      exact op_neD hu pins s σ H _ _ v u Q I rx ry ⟨d, e, r1.dp A.sim _ e1, r2.dp A.sim _ e2, hs.1, hs.2, g.here A (.bl _)⟩
    · exact g.elim
  · exact g.elim
theorem cmp_lt : OpR X (compareOp .Lt) (V2 X.K (doCmp .lt)) := by
  rintro pins s σ H x y v u Q I rx ry ⟨W, σ', ρ, sl, h, p, q, A, r1, r2, g⟩
  cases p <;> cases q <;> first | exact False.elim g | (cases r1; cases r2)
  · exact op_lt pins s σ H _ _ v u Q I rx ry ⟨_, _, rfl, rfl, g.here A (.bl _)⟩
  · exact op_lt_str pins s σ H _ _ v u Q I rx ry ⟨_, _, rfl, rfl, g.here A (.bl _)⟩
theorem cmp_le : OpR X (compareOp .LtE) (V2 X.K (doCmp .le)) := by
  rintro pins s σ H x y v u Q I rx ry ⟨W, σ', ρ, sl, h, p, q, A, r1, r2, g⟩
  cases p <;> cases q <;> first | exact False.elim g | (cases r1; cases r2)
  exact op_le pins s σ H _ _ v u Q I rx ry ⟨_, _, rfl, rfl, g.here A (.bl _)⟩
theorem cmp_gt : OpR X (compareOp .Gt) (V2 X.K (doCmp .gt)) := by
  rintro pins s σ H x y v u Q I rx ry ⟨W, σ', ρ, sl, h, p, q, A, r1, r2, g⟩
  cases p <;> cases q <;> first | exact False.elim g | (cases r1; cases r2)
  · exact op_gt pins s σ H _ _ v u Q I rx ry ⟨_, _, rfl, rfl, g.here A (.bl _)⟩
  · exact op_gt_str pins s σ H _ _ v u Q I rx ry ⟨_, _, rfl, rfl, g.here A (.bl _)⟩
theorem cmp_ge : OpR X (compareOp .GtE) (V2 X.K (doCmp .ge)) := by
  rintro pins s σ H x y v u Q I rx ry ⟨W, σ', ρ, sl, h, p, q, A, r1, r2, g⟩
  cases p <;> cases q <;> first | exact False.elim g | (cases r1; cases r2)
  exact op_ge pins s σ H _ _ v u Q I rx ry ⟨_, _, rfl, rfl, g.here A (.bl _)⟩
theorem RP.non_iff {x : PV} {v : V} (r : RP K ρ H x v) : decide (v = .non) = (match x with | .non => true | _ => false) := by
  cases r <;> rfl
theorem cmp_is : OpR X (compareOp .Is) (V2 X.K (doCmp .is)) := by
  rintro pins s σ H x y v u Q I rx ry ⟨W, σ', ρ, sl, h, p, q, A, r1, r2, g⟩
  cases q with
  | non =>
    cases r2
    have e := r1.non_iff
    refine op_isN pins s σ H _ _ v u Q I rx ry ⟨rfl, ?_⟩
    rw [e]
    cases p <;> exact g.here A (.bl _)
  | bl b =>
    cases p <;> first | exact False.elim g | skip
    cases r1; cases r2
    rename_i a
    refine op_isBl pins s σ H _ _ v u Q I rx ry ⟨a, b, rfl, rfl, ?_⟩
    have g2 : Q (.bl (a == b)) H := g.here A (.bl _)
    rw [Bool.beq_eq_decide_eq] at g2
    exact g2
  | _ => cases p <;> exact False.elim g
theorem cmp_isNot : OpR X (compareOp .IsNot) (V2 X.K (doCmp .isNot)) := by
  rintro pins s σ H x y v u Q I rx ry ⟨W, σ', ρ, sl, h, p, q, A, r1, r2, g⟩
  cases q with
  | non =>
    cases r2
    have e := r1.non_iff
    refine op_notN pins s σ H _ _ v u Q I rx ry ⟨rfl, ?_⟩
    rw [e]
    cases p <;> exact g.here A (.bl _)
  | bl b =>
    cases p <;> first | exact False.elim g | skip
    cases r1; cases r2
    rename_i a
    refine op_notBl pins s σ H _ _ v u Q I rx ry ⟨a, b, rfl, rfl, ?_⟩
    have g2 : Q (.bl (!(a == b))) H := g.here A (.bl _)
    rw [Bool.beq_eq_decide_eq] at g2
    exact g2
  | _ => cases p <;> exact False.elim g
theorem one_sign {x : Str} (e : x.length = 1) : x = ⟨#[x.cps.getD 0 0]⟩ := by
  obtain ⟨⟨l⟩⟩ := x
  match l, e with
  | [c], _ => rfl
theorem in_seq {neg : Bool} {op : CmpOp} (hop : OpR X (compareOp op) (rIn X.K neg)) {pins : List (Addr × Obj)} {s : Shared} {σ σ' : L2.St} {x y : V} {v u : Value} {p q : PV} (I : L2.Inv X pins σ H s) (rx : RelV x v) (ry : RelV y u)
    (A : At X.K ρ h H sl σ') (r1 : RP X.K ρ H p x) (r2 : RP X.K ρ H q y)
    (g : Good X.K W σ' ρ H (match seqOf h q with
      | some l => if isFlat p && l.all isFlat then .ok (.bl (if neg then !l.any fun z => eqP z p else l.any fun z => eqP z p)) h else .bad
      | none => .bad) Q) : wpAny (model X.prog X.w) X.A (compareOp op v u) (EP X pins σ Q) X.xe s := by
  split at g
  · rename_i l e
    split at g
    · rename_i hf
      rw [Bool.and_eq_true] at hf
      obtain ⟨a, vs, rfl, hs, hr⟩ := r2.seq A.sim e
      refine hop pins s σ H _ _ v u Q I rx ry ⟨a, vs, rfl, hs, r1.flat hf.1, hr.flat hf.2, ?_⟩
      have e2 := hr.inv r1 hf.1 hf.2
      rw [e2]
      exact g.here A (.bl _)
    · exact g.elim
  · exact g.elim
theorem cmp_in : OpR X (compareOp .In) (V2 X.K (doCmp .isIn)) := by
  rintro pins s σ H x y v u Q I rx ry ⟨W, σ', ρ, sl, h, p, q, A, r1, r2, g⟩
  have oth : (∀ a b, p = .str a → q = .str b → False) → wpAny (model X.prog X.w) X.A (compareOp .In v u) (EP X pins σ Q) X.xe s := fun hn => by
    refine in_seq (W := W) (neg := false) op_in_seq I rx ry A r1 r2 ?_
    cases p <;> first | exact g | (cases q <;> first | exact g | exact (hn _ _ rfl rfl).elim)
  cases p with
  | str a =>
    cases q with
    | str b =>
      simp only [doCmp] at g
      split at g
      · rename_i e
        cases r1; cases r2
        refine op_in_sign pins s σ H _ _ v u Q I rx ry ⟨_, b, congrArg V.str (one_sign e), rfl, ?_⟩
        exact g.here A (.bl _)
      · exact g.elim
    | _ => exact oth fun _ _ _ z => nomatch z
  | _ => exact oth fun _ _ z _ => nomatch z
theorem cmp_notIn : OpR X (compareOp .NotIn) (V2 X.K (doCmp .notIn)) := by
  rintro pins s σ H x y v u Q I rx ry ⟨W, σ', ρ, sl, h, p, q, A, r1, r2, g⟩
  have oth : (∀ a b, p = .str a → q = .str b → False) → wpAny (model X.prog X.w) X.A (compareOp .NotIn v u) (EP X pins σ Q) X.xe s := fun hn => by
    refine in_seq (W := W) (neg := true) op_notIn_seq I rx ry A r1 r2 ?_
    cases p <;> first | exact g | (cases q <;> first | exact g | exact (hn _ _ rfl rfl).elim)
  cases p with
  | str a =>
    cases q with
    | str b =>
      simp only [doCmp] at g
      split at g
      · rename_i e
        cases r1; cases r2
        refine op_notIn_sign pins s σ H _ _ v u Q I rx ry ⟨_, b, congrArg V.str (one_sign e), rfl, ?_⟩
        exact g.here A (.bl _)
      · exact g.elim
    | _ => exact oth fun _ _ _ z => nomatch z
  | _ => exact oth fun _ _ z _ => nomatch z
theorem cmp_ok (hu : X.A.units + 64 < cLine) (op : CmpOp) : OpR X (compareOp op) (V2 X.K (doCmp (cCp op))) := by
  cases op
  · exact cmp_eq hu
  · exact cmp_ne hu
  · exact cmp_lt
  · exact cmp_le
  · exact cmp_gt
  · exact cmp_ge
  · exact cmp_is
  · exact cmp_isNot
  · exact cmp_in
  · exact cmp_notIn

/-! ### truth -/
theorem RP.tru (S : Sim K ρ h H) {x : PV} {v : V} {k : Bool} (r : RP K ρ H x v) (e : R.tru h x = some k) : TruV K v H k := by
  cases x with
  | non => cases r; simp only [R.tru, Option.some.injEq] at e; exact e.symm
  | bl b => cases r; simp only [R.tru, Option.some.injEq] at e; exact e.symm
  | int b => cases r; simp only [R.tru, Option.some.injEq] at e; exact e.symm
  | str b =>
    cases r
    simp only [R.tru] at e
    split at e
    · rename_i hz
      simp only [Option.some.injEq] at e
      exact ⟨by rw [← sizeL_eq]; exact hz, e.symm⟩
    · cases e
  | tup l =>
    simp only [R.tru, Option.some.injEq] at e
    cases r with
    | @tup a _ vs h1 h2 =>
      refine .inr (.inl ⟨vs, h1.sq, ?_⟩)
      rw [← e]
      cases h2 <;> rfl
  | fro l =>
    simp only [R.tru, Option.some.injEq] at e
    cases r with
    | @fro a _ _ vs h1 h2 =>
      refine .inl ⟨vs, .inl (.inr ⟨_, h1⟩), ?_⟩
      rw [← e]
      cases h2 <;> rfl
    | @frl a _ vs _ _ h1 h2 =>
      refine .inl ⟨vs, SqL.of h1, ?_⟩
      rw [← e]
      cases h2 <;> rfl
    | @frk a _ vs h1 h2 =>
      refine .inl ⟨vs, h1 H, ?_⟩
      rw [← e]
      cases h2 <;> rfl
  | ref n =>
    simp only [R.tru] at e
    split at e
    · rename_i l e2
      simp only [Option.some.injEq] at e
      obtain ⟨a, vs, rfl, _, h1, h2⟩ := r.lstAt S e2
      refine .inl ⟨vs, SqL.of h1, ?_⟩
      rw [← e]
      cases h2 <;> rfl
    · rename_i l e2
      simp only [Option.some.injEq] at e
      obtain ⟨a, vs, rfl, _, h1, h2⟩ := r.dicAt S e2
      refine .inr (.inr ⟨vs, h1, ?_⟩)
      rw [← e]
      cases h2 <;> rfl
    · cases e
  | glo x => simp [R.tru] at e

/-! ### subscripts -/
theorem tail_of {prog : Program} {w : World} {A : Around} {E : Value → Shared → Prop} {s : Shared} {value slice : Expr} {T id : String} {o i : Value} {Q : Value → Shared → Prop}
    (hl : typeLookup (.type T) "__getitem__" = pure (some (.builtin id))) (hs : subscripted slice false o i = operate [o, i] (getItem o i)) (hT : s.TypeIs o T) (h : wpAny (model prog w) A (getItem o i) Q E s) :
    wpAny (model prog w) A (subscriptTail value slice o i) Q E s := by
  unfold subscriptTail
  refine wpAny_bind ?_
  rw [getitemInPython_of_ne hT.not_modules]
  refine wpAny_bind (wpAny_specialOf hT hl ?_)
  have fin : wpAny (model prog w) A (subscripted slice false o i) (fun r s₃ => wpAny (model prog w) A (letTemporaryGo value o r >>= fun _ => pure r) Q E s₃) E s := by
    rw [hs]
    exact wpAny_operating (wpAny_mono h (fun r s₃ h₃ => wpAny_bind (wpAny_letTemporaryGo (wpAny_pure h₃))) fun _ _ x => x)
  first
    | exact wpAny_pure (wpAny_bind fin)
    | exact wpAny_bind (wpAny_pure (wpAny_bind fin))
    | exact wpAny_bind fin
theorem KPs.lookK {k : Key} {x : PV} : ∀ {l : List (Key × PV)} {m : List (Key × V)}, KPs K ρ H l m → R.lookK l k = some x → ∃ v, valV m k = some v ∧ RP K ρ H x v
  | _, _, .nil, e => by cases e
  | (a, p) :: l, (b, q) :: m, .cons r t, e => by
    obtain ⟨e1, e2⟩ := r
    have e1 : a = b := e1
    subst e1
    unfold R.lookK at e
    unfold valV
    rw [List.find?_cons] at e ⊢
    by_cases ek : a = k
    · simp only [ek, decide_true] at e ⊢
      simp only [Option.map_some, Option.some.injEq] at e
      subst e
      exact ⟨q, rfl, e2⟩
    · simp only [ek, decide_false] at e ⊢
      exact KPs.lookK t e
theorem ix_ok (hu : X.A.units + 1 < cLine) : IxR X (V2 X.K doIx) := by
  rintro value slice pins s σ H x y v u Q I rx ry ⟨W, σ', ρ, sl, h, p, q, A, r1, r2, g⟩ hs
  have seqs : ∀ i : Int, q = .int i → Good X.K W σ' ρ H (match seqOf h p with
      | some l => Rs.of (atI l i) h
      | none => .bad) Q → wpAny (model X.prog X.w) X.A (subscriptTail value slice v u) (EP X pins σ Q) X.xe s := fun i eq g2 => by
    subst eq
    cases r2
    split at g2
    · rename_i l e
      obtain ⟨a, vs, rfl, hh, hr⟩ := r1.seq A.sim e
      cases e2 : atI l i with
      | none => rw [e2] at g2; exact g2.elim
      | some z =>
        rw [e2] at g2
        unfold atI at e2
        simp only [Option.bind_eq_some_iff] at e2
        obtain ⟨j, e3, e4⟩ := e2
        obtain ⟨w, h1, h2⟩ := hr.get e4
        have e5 : atI vs i = some w := by
          unfold atI
          rw [← hr.length, e3]
          exact h1
        rcases hh with hh | hh
        · exact ix_list value slice pins s σ H _ _ v u Q I rx ry ⟨_, _, _, _, rfl, rfl, hh, e5, g2.here A h2⟩ hs
        · exact ix_tup value slice pins s σ H _ _ v u Q I rx ry ⟨_, _, _, _, rfl, rfl, hh, e5, g2.here A h2⟩ hs
    · exact g2.elim
  cases q with
  | int i =>
    cases p with
    | str z =>
      cases r1; cases r2
      simp only [doIx] at g
      split at g
      · rename_i hz
        split at g
        · rename_i c e
          exact ix_str value slice pins s σ H _ _ v u Q I rx ry ⟨z, i, c, rfl, rfl, by rw [← sizeL_eq]; exact hz, e, g.here A (.str _)⟩ hs
        · exact g.elim
      · exact g.elim
    | _ => exact seqs i rfl g
  | str k =>
    cases p <;> first | exact False.elim g | skip
    rename_i n
    simp only [doIx] at g
    split at g
    · rename_i l e
      cases e2 : R.lookK l (Sum.inr k) with
      | none => rw [e2] at g; exact g.elim
      | some z =>
        rw [e2] at g
        obtain ⟨a, vs, rfl, _, h1, h2⟩ := r1.dicAt A.sim e
        obtain ⟨w, h3, h4⟩ := KPs.lookK h2 e2
        cases r2
        have gt : DGet H a (kV (Sum.inr k)) (some w) := by
          have := DGet.k (k := Sum.inr k) h1
          rw [h3] at this
          exact this
        have ev : v = .ref a := rx
        subst ev
        exact tail_of PySem.F.slot_dict_getitem.lookup hs (dict_typeIs I gt) (d_getItem hu I gt ry fun w' s3 I3 rw' => ⟨w, H, I3, rw', g.here A h4⟩)
    · exact g.elim
  | _ => cases p <;> exact False.elim g
theorem RPs.cut {l : List PV} {vs : List V} (r : RPs K ρ H l vs) (lo hi : Option Int) : RPs K ρ H (cutI l lo hi) (cutV vs lo hi) := by
  unfold cutI cutV
  rw [r.length]
  exact (r.drop _).take _
theorem cut_whole {l : List PV} {lo hi : Option Int} (e : HT.sIx l.length 0 lo = 0 ∧ HT.sIx l.length l.length hi = l.length) : cutI l lo hi = l := by
  unfold cutI
  rw [e.1, e.2, List.drop_zero, Nat.sub_zero, List.take_length]
theorem sl_ok : SlR X (fun x lo hi H Q => ∃ W σ ρ sl h p, At X.K ρ h H sl σ ∧ RP X.K ρ H p x ∧ Good X.K W σ ρ H (doSl p lo hi h) Q) := by
  rintro pins s σ H x v vl vu lo hi sl Q I rx hs pl pu ⟨W, σ', ρ, sl', h, p, A, r1, g⟩
  cases p <;> first | exact False.elim g | skip
  · rename_i l
    cases r1 with
    | @tup a _ vs h1 h2 =>
      refine sl_tupF pins s σ H _ v vl vu lo hi sl Q I rx hs pl pu ⟨a, vs, rfl, h1.sq, fun e => ?_, fun e => g.newT A (h2.cut lo hi)⟩
      rw [← h2.length] at e
      rw [show doSl (.tup l) lo hi h = .ok (.tup (cutI l lo hi)) h from rfl, cut_whole e] at g
      exact g.here A (.tup h1 h2)
  · rename_i l
    obtain ⟨a, vs, rfl, hh, hr⟩ := r1.seq (l := l) A.sim rfl
    rcases hh with hh | hh
    · exact sl_list pins s σ H _ v vl vu lo hi sl Q I rx hs pl pu ⟨a, vs, rfl, hh, g.newL A (hr.cut lo hi)⟩
    · cases r1 with
      | fro h1 h2 => exact sl_list pins s σ H _ v vl vu lo hi sl Q I rx hs pl pu ⟨a, _, rfl, .inl (.inr ⟨_, h1⟩), g.newL A (h2.cut lo hi)⟩
      | frl _ _ h1 h2 => exact sl_list pins s σ H _ v vl vu lo hi sl Q I rx hs pl pu ⟨a, _, rfl, SqL.of h1, g.newL A (h2.cut lo hi)⟩
      | frk h1 h2 => exact sl_list pins s σ H _ v vl vu lo hi sl Q I rx hs pl pu ⟨a, _, rfl, h1 H, g.newL A (h2.cut lo hi)⟩
  · simp only [doSl] at g
    split at g
    · rename_i l e
      obtain ⟨a, vs, rfl, _, h1, h2⟩ := r1.lstAt A.sim e
      exact sl_list pins s σ H _ v vl vu lo hi sl Q I rx hs pl pu ⟨a, vs, rfl, SqL.of h1, g.newL A (h2.cut lo hi)⟩
    · exact g.elim
end
end R
end

section
set_option Elab.async false
set_option linter.all false
set_option maxRecDepth 100000
set_option maxHeartbeats 4000000
/-! Built-in functions and methods. -/
namespace R
open PySem PySem.Spec PyProof.Rows L2
section
variable {X : Cx} {K : PySem.W.Frag} {W : WX} {σ : L2.St} {ρ : Tr} {H : Hp} {sl : Sl} {h : PH} {Q : VK}
theorem Good.newF {fr : Bool} {l : List PV} {vs : List V} (g : Good K W σ ρ H (R.newF fr l h) Q) (p : At K ρ h H sl σ) (r : RPs K ρ H l vs) : ∀ a, H a = none → Q (.ref a) (upd H a (.lst vs)) := by
  cases fr with
  | false => exact g.newL p r
  | true =>
    intro a ha
    have na : a ∉ ρ := fun m => by
      obtain ⟨u, e, _⟩ := p.sim.mem m
      rw [ha] at e; cases e
    have nb : a ∉ ρ.b := fun m => by
      obtain ⟨vs, e⟩ := p.sim.bz a m
      rw [ha] at e; cases e
    exact g ρ (upd H a (.lst vs)) (.ref a) (Tr.le_refl ρ) (Keep.new ha) (p.sim.grow (upd_same_of ha)) (.frl na nb upd_same (r.mono (Tr.le_refl ρ) (Keep.new ha)))
theorem RPs.one {x : PV} {vs : List V} (r : RPs K ρ H [x] vs) : ∃ v, vs = [v] ∧ RP K ρ H x v := by
  cases r with
  | cons a b => cases b; exact ⟨_, rfl, a⟩
theorem RPs.two {x y : PV} {vs : List V} (r : RPs K ρ H [x, y] vs) : ∃ v w, vs = [v, w] ∧ RP K ρ H x v ∧ RP K ρ H y w := by
  cases r with
  | cons a b =>
    obtain ⟨w, rfl, c⟩ := b.one
    exact ⟨_, w, rfl, a, c⟩
theorem RPs.bls : ∀ {l : List PV} {vs : List V} {bs : List Bool}, RPs K ρ H l vs → blsOf l = some bs → vs = bs.map V.bl
  | [], _, _, .nil, e => by cases e; rfl
  | x :: l, _, bs, .cons a b, e => by
    cases x <;> first | (simp [blsOf] at e; done) | skip
    rename_i c
    simp only [blsOf, Option.map_eq_some_iff] at e
    obtain ⟨bs', e1, rfl⟩ := e
    cases a
    rw [RPs.bls b e1]
    rfl
/-- a built-in's value and its name -/
def bltVal : Bf → Value
  | .len => .builtin "len"
  | .int => .type "int"
  | .bool => .type "bool"
  | .list => .type "list"
  | .tuple => .type "tuple"
  | .all => .builtin "all"
  | .min => .builtin "min"
  | .max => .builtin "max"
  | .sorted => .builtin "sorted"
  | .repr => .builtin "repr"
theorem on1_ok {v : Value} {f : PV → PH → Rs PV} (h1 : CallR X v (fun xs H Q => ∃ x, xs = [x] ∧ V1 X.K f x H Q)) : CallR X v (VL X.K (on1 f)) := by
  rintro pins s σ H xs us Q I rv ⟨W, σ', ρ, sl, h, ps, A, r, g⟩
  match ps, r, g with
  | [], r, g => exact g.elim
  | [x], r, g =>
    obtain ⟨w, rfl, a⟩ := r.one
    exact h1 pins s σ H _ us Q I rv ⟨w, rfl, W, σ', ρ, sl, h, x, A, a, g⟩
  | _ :: _ :: _, r, g => exact False.elim g
theorem on2_ok {v : Value} {f : PV → PV → PH → Rs PV} (h1 : CallR X v (fun xs H Q => ∃ x y, xs = [x, y] ∧ V2 X.K f x y H Q)) : CallR X v (VL X.K (on2 f)) := by
  rintro pins s σ H xs us Q I rv ⟨W, σ', ρ, sl, h, ps, A, r, g⟩
  match ps, r, g with
  | [], r, g => exact g.elim
  | [x], r, g => exact False.elim g
  | [x, y], r, g =>
    obtain ⟨v1, v2, rfl, a, b⟩ := r.two
    exact h1 pins s σ H _ us Q I rv ⟨v1, v2, rfl, W, σ', ρ, sl, h, x, y, A, a, b, g⟩
  | _ :: _ :: _ :: _, r, g => exact False.elim g
theorem len_ok : CallR X (.builtin "len") (VL X.K (on1 bLen)) := on1_ok <| by
  rintro pins s σ H xs us Q I rv ⟨v, rfl, W, σ', ρ, sl, h, x, A, a, g⟩
  have sq : ∀ l, seqOf h x = some l → Good X.K W σ' ρ H (.ok (.int l.length) h) Q → wpAny (model X.prog X.w) X.A (call (.builtin "len") us) (EP X pins σ Q) X.xe s := fun l e g => by
    obtain ⟨p, vs, rfl, h1, h2⟩ := a.seq A.sim e
    rw [h2.length] at g
    exact call_len_seq pins s σ H _ us Q I rv ⟨p, vs, rfl, h1, g.here A (.int _)⟩
  cases x with
  | str x =>
    cases a
    simp only [bLen] at g
    split at g
    · rename_i hz
      exact call_len pins s σ H _ us Q I rv ⟨_, x.length, rfl, ⟨by rw [← sizeL_eq]; exact hz, rfl⟩, g.here A (.int _)⟩
    · exact g.elim
  | ref n =>
    simp only [bLen] at g
    split at g
    · rename_i l e1
      exact sq l (by simp [seqOf, e1]) g
    · rename_i l e1
      obtain ⟨p, vs, rfl, _, h1, h2⟩ := a.dicAt A.sim e1
      have el : l.length = vs.length := Paired.length h2
      rw [el] at g
      exact call_lenD pins s σ H _ us Q I rv ⟨p, vs, rfl, h1, g.here A (.int _)⟩
    · exact g.elim
  | tup l => exact sq l rfl g
  | fro l => exact sq l rfl g
  | _ => exact g.elim
theorem int_ok : CallR X (.type "int") (VL X.K (on1 bInt)) := on1_ok <| by
  rintro pins s σ H xs us Q I rv ⟨v, rfl, W, σ', ρ, sl, h, x, A, a, g⟩
  cases x <;> first | exact False.elim g | skip
  · cases a; exact call_int1 pins s σ H _ us Q I rv (.inr ⟨_, rfl, g.here A (.int _)⟩)
  · cases a; exact call_int1 pins s σ H _ us Q I rv (.inl ⟨_, rfl, g.here A (.int _)⟩)
theorem bool_ok : CallR X (.type "bool") (VL X.K (on1 bBool)) := on1_ok <| by
  rintro pins s σ H xs us Q I rv ⟨v, rfl, W, σ', ρ, sl, h, x, A, a, g⟩
  cases x <;> first | exact False.elim g | skip
  · cases a; exact call_bool1 pins s σ H _ us Q I rv (.inr ⟨_, rfl, g.here A (.bl _)⟩)
  · cases a; exact call_bool1 pins s σ H _ us Q I rv (.inl ⟨_, rfl, g.here A (.bl _)⟩)
theorem list_ok : CallR X (.type "list") (VL X.K (on1 bList)) := on1_ok <| by
  rintro pins s σ H xs us Q I rv ⟨v, rfl, W, σ', ρ, sl, h, x, A, a, g⟩
  unfold bList at g
  split at g
  · rename_i l e
    obtain ⟨p, vs, rfl, h1, h2⟩ := a.seq A.sim e
    exact call_list_of pins s σ H _ us Q I rv ⟨p, vs, rfl, h1, g.newL A h2⟩
  · exact g.elim
theorem tuple_ok : CallR X (.type "tuple") (VL X.K (on1 bTuple)) := on1_ok <| by
  rintro pins s σ H xs us Q I rv ⟨v, rfl, W, σ', ρ, sl, h, x, A, a, g⟩
  unfold bTuple at g
  cases x with
  | tup l =>
    cases a with
    | tup h1 h2 => exact call_tupF pins s σ H _ us Q I rv ⟨_, _, rfl, .inr ⟨h1.sq, g.here A (.tup h1 h2)⟩⟩
  | fro l =>
    cases a with
    | fro h1 h2 => exact call_tupF pins s σ H _ us Q I rv ⟨_, _, rfl, .inl ⟨.inl (.inr ⟨_, h1⟩), g.newT A h2⟩⟩
    | frl _ _ h1 h2 => exact call_tupF pins s σ H _ us Q I rv ⟨_, _, rfl, .inl ⟨SqL.of h1, g.newT A h2⟩⟩
    | frk h1 h2 => exact call_tupF pins s σ H _ us Q I rv ⟨_, _, rfl, .inl ⟨h1 H, g.newT A h2⟩⟩
  | ref n =>
    simp only [seqOf] at g
    cases e : h[n]? with
    | none => rw [e] at g; exact g.elim
    | some o =>
      rw [e] at g
      cases o <;> first | exact False.elim g | skip
      obtain ⟨p, vs, rfl, _, h1, h2⟩ := a.lstAt A.sim e
      exact call_tupF pins s σ H _ us Q I rv ⟨_, _, rfl, .inl ⟨SqL.of h1, g.newT A h2⟩⟩
  | _ => exact g.elim
theorem all_ok (hc : X.calm = true) : CallR X (.builtin "all") (VL X.K (on1 bAll)) := on1_ok <| by
  rintro pins s σ H xs us Q I rv ⟨v, rfl, W, σ', ρ, sl, h, x, A, a, g⟩
  cases x <;> first | exact False.elim g | skip
  rename_i l
  simp only [bAll] at g
  split at g
  · rename_i bs e
    have fin : ∀ (p : Addr) (vs : List V), v = .ref p → SqL X.K H p vs → RPs X.K ρ H l vs → wpAny (model X.prog X.w) X.A (call (.builtin "all") us) (EP X pins σ Q) X.xe s := fun p vs ev hs hr => by
      subst ev
      rw [hr.bls e] at hs
      exact cr_all hc pins s σ H _ us Q I rv ⟨p, bs, rfl, hs, g.here A (.bl _)⟩
    cases a with
    | fro h1 h2 => exact fin _ _ rfl (.inl (.inr ⟨_, h1⟩)) h2
    | frl _ _ h1 h2 => exact fin _ _ rfl (SqL.of h1) h2
    | frk h1 h2 => exact fin _ _ rfl (h1 H) h2
  · exact g.elim
theorem min_ok (hc : X.calm = true) : CallR X (.builtin "min") (VL X.K (on2 bMin)) := on2_ok <| by
  rintro pins s σ H xs us Q I rv ⟨v, w, rfl, W, σ', ρ, sl, h, x, y, A, a, b, g⟩
  cases x <;> cases y <;> first | exact False.elim g | skip
  cases a; cases b
  exact call_min2 hc pins s σ H _ us Q I rv ⟨_, _, rfl, g.here A (.int _)⟩
theorem max_ok (hc : X.calm = true) : CallR X (.builtin "max") (VL X.K (on2 bMax)) := on2_ok <| by
  rintro pins s σ H xs us Q I rv ⟨v, w, rfl, W, σ', ρ, sl, h, x, y, A, a, b, g⟩
  cases x <;> cases y <;> first | exact False.elim g | skip
  cases a; cases b
  exact call_max2 hc pins s σ H _ us Q I rv ⟨_, _, rfl, g.here A (.int _)⟩
/-! sorted, repr -/
theorem leS_eq (a b : Str) : leS a b = !Spec.ltCps b.cps.toList a.cps.toList := by
  unfold leS
  rw [ltCps_eq]
theorem leS_iff (a b : Str) : leS a b = true ↔ a.cps.toList ≤ b.cps.toList := by
  unfold leS
  rw [Bool.not_eq_true', decide_eq_false_iff_not]
  exact List.not_lt
theorem leS_anti {a b : Str} (h1 : leS a b = true) (h2 : leS b a = true) : a = b := by
  have e := List.le_antisymm ((leS_iff a b).mp h1) ((leS_iff b a).mp h2)
  obtain ⟨x⟩ := a
  obtain ⟨y⟩ := b
  simp only at e
  rw [Array.ext' e]
theorem leS_trans {a b c : Str} (h1 : leS a b = true) (h2 : leS b c = true) : leS a c = true := (leS_iff a c).mpr (List.le_trans ((leS_iff a b).mp h1) ((leS_iff b c).mp h2))
theorem leS_total (a b : Str) : leS a b = true ∨ leS b a = true := by
  rcases List.le_total a.cps.toList b.cps.toList with h | h
  · exact .inl ((leS_iff a b).mpr h)
  · exact .inr ((leS_iff b a).mpr h)
theorem risingS_pw : ∀ (l : List Str) (p : Str), PyProof.Rows.risingS p l = true → (p :: l).Pairwise fun a b => leS a b = true
  | [], p, _ => List.pairwise_singleton _ _
  | x :: r, p, h => by
    unfold PyProof.Rows.risingS at h
    rw [Bool.and_eq_true, ← leS_eq] at h
    have ih := risingS_pw r x h.2
    rw [List.pairwise_cons]
    refine ⟨fun y hy => ?_, ih⟩
    rcases List.mem_cons.mp hy with rfl | hy
    · exact h.1
    · exact leS_trans h.1 ((List.pairwise_cons.mp ih).1 y hy)
theorem sortedS_pw {l : List Str} (h : PyProof.Rows.sortedS l = true) : l.Pairwise fun a b => leS a b = true := by
  cases l with
  | nil => exact List.Pairwise.nil
  | cons x r => exact risingS_pw r x h
theorem insS_perm (x : Str) : ∀ l, (insS x l).Perm (x :: l)
  | [] => List.Perm.refl _
  | y :: r => by
    unfold insS
    split
    · exact List.Perm.refl _
    · exact ((insS_perm x r).cons y).trans (List.Perm.swap x y r)
theorem sortS_perm : ∀ l, (sortS l).Perm l
  | [] => List.Perm.refl _
  | x :: r => (insS_perm x _).trans ((sortS_perm r).cons x)
theorem insS_pw (x : Str) : ∀ l, l.Pairwise (fun a b => leS a b = true) → (insS x l).Pairwise fun a b => leS a b = true
  | [], _ => List.pairwise_singleton _ _
  | y :: r, h => by
    unfold insS
    have h2 := List.pairwise_cons.mp h
    split
    · rename_i hx
      rw [List.pairwise_cons]
      refine ⟨fun z hz => ?_, h⟩
      rcases List.mem_cons.mp hz with rfl | hz
      · exact hx
      · exact leS_trans hx (h2.1 z hz)
    · rename_i hx
      rw [List.pairwise_cons]
      refine ⟨fun z hz => ?_, insS_pw x r h2.2⟩
      rcases List.mem_cons.mp ((insS_perm x r).mem_iff.mp hz) with rfl | hz
      · exact (leS_total _ _).resolve_left hx
      · exact h2.1 z hz
theorem sortS_pw : ∀ l, (sortS l).Pairwise fun a b => leS a b = true
  | [] => List.Pairwise.nil
  | x :: r => insS_pw x _ (sortS_pw r)
theorem sortS_eq {ys xs : List Str} (hp : ys.Perm xs) (h : PyProof.Rows.sortedS ys = true) : ys = sortS xs :=
  (hp.trans (sortS_perm xs).symm).eq_of_pairwise (fun _ _ _ _ h1 h2 => leS_anti h1 h2) (sortedS_pw h) (sortS_pw xs)
theorem insI_perm (x : Int) : ∀ l, (insI x l).Perm (x :: l)
  | [] => List.Perm.refl _
  | y :: r => by
    unfold insI
    split
    · exact List.Perm.refl _
    · exact ((insI_perm x r).cons y).trans (List.Perm.swap x y r)
theorem sortI_perm : ∀ l, (sortI l).Perm l
  | [] => List.Perm.refl _
  | x :: r => (insI_perm x _).trans ((sortI_perm r).cons x)
theorem insI_pw (x : Int) : ∀ l, l.Pairwise (· ≤ ·) → (insI x l).Pairwise (· ≤ ·)
  | [], _ => List.pairwise_singleton _ _
  | y :: r, h => by
    unfold insI
    have h2 := List.pairwise_cons.mp h
    split
    · rename_i hx
      rw [List.pairwise_cons]
      refine ⟨fun z hz => ?_, h⟩
      rcases List.mem_cons.mp hz with rfl | hz
      · exact hx
      · exact Int.le_trans hx (h2.1 z hz)
    · rename_i hx
      rw [List.pairwise_cons]
      refine ⟨fun z hz => ?_, insI_pw x r h2.2⟩
      rcases List.mem_cons.mp ((insI_perm x r).mem_iff.mp hz) with rfl | hz
      · omega
      · exact h2.1 z hz
theorem sortI_pw : ∀ l, (sortI l).Pairwise (· ≤ ·)
  | [] => List.Pairwise.nil
  | x :: r => insI_pw x _ (sortI_pw r)
theorem sortI_eq {ys xs : List Int} (hp : ys.Perm xs) (h : ys.Pairwise (· ≤ ·)) : ys = sortI xs :=
  (hp.trans (sortI_perm xs).symm).eq_of_pairwise (fun _ _ _ _ h1 h2 => Int.le_antisymm h1 h2) h (sortI_pw xs)
theorem RPs.strs : ∀ {l : List PV} {vs : List V} {ss : List Str}, RPs K ρ H l vs → strsOf l = some ss → vs = ss.map V.str
  | [], _, _, .nil, e => by cases e; rfl
  | x :: l, _, bs, .cons a b, e => by
    cases x <;> first | (simp [strsOf] at e; done) | skip
    rename_i c
    simp only [strsOf, Option.map_eq_some_iff] at e
    obtain ⟨bs', e1, rfl⟩ := e
    cases a
    rw [RPs.strs b e1]
    rfl
theorem RPs.ints : ∀ {l : List PV} {vs : List V} {ss : List Int}, RPs K ρ H l vs → intsOf l = some ss → vs = ss.map V.int
  | [], _, _, .nil, e => by cases e; rfl
  | x :: l, _, bs, .cons a b, e => by
    cases x <;> first | (simp [intsOf] at e; done) | skip
    rename_i c
    simp only [intsOf, Option.map_eq_some_iff] at e
    obtain ⟨bs', e1, rfl⟩ := e
    cases a
    rw [RPs.ints b e1]
    rfl
theorem RPs.ofStrs : ∀ ss : List Str, RPs K ρ H (ss.map .str) (ss.map V.str)
  | [] => .nil
  | x :: r => .cons (.str x) (RPs.ofStrs r)
theorem RPs.ofInts : ∀ ss : List Int, RPs K ρ H (ss.map .int) (ss.map V.int)
  | [] => .nil
  | x :: r => .cons (.int x) (RPs.ofInts r)
theorem sorted_ok : CallR X (.builtin "sorted") (VL X.K (on1 bSorted)) := on1_ok <| by
  rintro pins s σ H xs us Q I rv ⟨v, rfl, W, σ', ρ, sl, h, x, A, a, g⟩
  unfold bSorted at g
  split at g
  · rename_i l e
    split at g
    · exact g.elim
    · rename_i hx
      have hq : ∃ p vs, v = .ref p ∧ SqL X.K H p vs ∧ RPs X.K ρ H l vs := by
        obtain ⟨p, vs, rfl, h1, h2⟩ := a.seq A.sim e
        rcases h1 with h1 | h1
        · exact ⟨p, vs, rfl, h1, h2⟩
        · cases x with
          | tup l' => exact absurd rfl hx
          | fro l' =>
            simp only [seqOf, Option.some.injEq] at e; subst e
            cases a with
            | fro h3 h4 => exact ⟨_, _, rfl, .inl (.inr ⟨_, h3⟩), h4⟩
            | frl _ _ h3 h4 => exact ⟨_, _, rfl, SqL.of h3, h4⟩
            | frk h3 h4 => exact ⟨_, _, rfl, h3 H, h4⟩
          | ref n =>
            simp only [seqOf] at e
            split at e
            · rename_i l' e2
              cases e
              obtain ⟨q, ws, e3, _, h3, h4⟩ := a.lstAt A.sim e2
              exact ⟨q, ws, e3, SqL.of h3, h4⟩
            · cases e
          | _ => cases e
      obtain ⟨p, vs, rfl, h1, h2⟩ := hq
      split at g
      · rename_i ss es
        split at g
        · rename_i h64
          obtain rfl := h2.strs es
          exact cr_sortedS pins s σ H _ us Q I rv ⟨p, ss, rfl, h1, h64, fun ys q hp hs hq => by
            have e2 := sortS_eq hp hs
            subst e2
            exact g.newL A (RPs.ofStrs _) q hq⟩
        · exact g.elim
      · split at g
        · rename_i is es
          obtain rfl := h2.ints es
          exact cr_sortedI pins s σ H _ us Q I rv ⟨p, is, rfl, h1, fun ys q hp hs hq => by
            have e2 := sortI_eq hp hs
            subst e2
            exact g.newL A (RPs.ofInts _) q hq⟩
        · exact g.elim
  · exact g.elim
theorem repr_ok (hg : X.A.guards = some []) (hu : X.A.units + 70 < cLine) : CallR X (.builtin "repr") (VL X.K (on1 bRepr)) := on1_ok <| by
  rintro pins s σ H xs us Q I rv ⟨v, rfl, W, σ', ρ, sl, h, x, A, a, g⟩
  have key : ∀ d, dat h 60 x = some d → (∃ p, v = V.ref p) → Good X.K W σ' ρ H (if SeqAt.shaped d && d.showable && !d.hasDict && decide (d.shown.length ≤ sizeL) then .ok (.str d.shown) h else .bad) Q → wpAny (model X.prog X.w) X.A (call (.builtin "repr") us) (EP X pins σ Q) X.xe s := fun d ed hp g => by
    obtain ⟨p, rfl⟩ := hp
    split at g
    · rename_i hc
      simp only [Bool.and_eq_true, decide_eq_true_eq, Bool.not_eq_true'] at hc
      obtain ⟨⟨⟨h1, h2⟩, h3⟩, h4⟩ := hc
      obtain ⟨u, rfl, ru⟩ := vals1 rv
      obtain ⟨as, rr⟩ := Dp.reads I d _ u (a.dp A.sim _ ed) ru
      obtain rfl : u = Value.ref p := ru
      have hdep : d.depth ≤ 64 := by
        unfold SeqAt.shaped at h1
        rw [Bool.and_eq_true, decide_eq_true_eq] at h1
        exact h1.2
      refine repr_of_reads' rr h2 (fun z => by rw [h3] at z; cases z) hg (by omega) (fun _ _ z => z) (fun h' u tk hk => ?_) (by rw [← sizeL_eq]; exact h4)
      exact ⟨.str d.shown, H, I.kept hk, ⟨_, rfl⟩, g.here A (.str _)⟩
    · exact g.elim
  cases x with
  | int i =>
    cases a
    simp only [bRepr] at g
    split at g
    · rename_i hz
      exact SkE.call_repr_int pins s σ H _ us Q I rv ⟨i, rfl, hz, g.here A (.str _)⟩
    · exact g.elim
  | tup l =>
    simp only [bRepr] at g
    split at g
    · rename_i d ed
      exact key d ed (by cases a; exact ⟨_, rfl⟩) g
    · exact g.elim
  | fro l =>
    simp only [bRepr] at g
    split at g
    · rename_i d ed
      exact key d ed (by cases a <;> exact ⟨_, rfl⟩) g
    · exact g.elim
  | ref n =>
    simp only [bRepr] at g
    split at g
    · rename_i d ed
      exact key d ed (by cases a; exact ⟨_, rfl⟩) g
    · exact g.elim
  | _ => exact g.elim
theorem blt_ok (hc : X.calm = true) (hg : X.A.guards = some []) (hu : X.A.units + 70 < cLine) (b : Bf) : CallR X (bltVal b) (VL X.K (doBlt b)) := by
  cases b
  · exact len_ok
  · exact int_ok
  · exact bool_ok
  · exact list_ok
  · exact tuple_ok
  · exact all_ok hc
  · exact min_ok hc
  · exact max_ok hc
  · exact sorted_ok
  · exact repr_ok hg hu

/-! ### methods -/
theorem find_some {l : List PV} {x : PV} {j : Nat} (e : l.findIdx? (fun z => eqP z x) = some j) : ∃ z, l[j]? = some z ∧ eqP z x = true ∧ ∀ m z', m < j → l[m]? = some z' → eqP z' x = false := by
  rw [List.findIdx?_eq_some_iff_getElem] at e
  obtain ⟨hj, h1, h2⟩ := e
  refine ⟨l[j], List.getElem?_eq_getElem hj, h1, fun m z' hm e => ?_⟩
  have hml : m < l.length := Nat.lt_trans hm hj
  rw [List.getElem?_eq_getElem hml] at e
  cases e
  have := h2 m hm
  simpa using this
theorem index_of {l : List PV} {vs : List V} {x : PV} {v : V} (r : RPs K ρ H l vs) (a : RP K ρ H x v) (hf : (isFlat x && l.all isFlat) = true) {j : Nat} (e : l.findIdx? (fun z => eqP z x) = some j) :
    flatV v = true ∧ vs.all flatV = true ∧ ∃ z, vs[j]? = some z ∧ L2.eqV z v = true ∧ ∀ (m : Nat) (z' : V), m < j → vs[m]? = some z' → L2.eqV z' v = false := by
  rw [Bool.and_eq_true] at hf
  obtain ⟨z, e1, e2, e3⟩ := find_some e
  obtain ⟨w, w1, w2⟩ := r.get e1
  have fl : ∀ {m : Nat} {q : PV}, l[m]? = some q → isFlat q = true := fun e => List.all_eq_true.mp hf.2 _ (List.mem_of_getElem? e)
  refine ⟨a.flat hf.1, r.flat hf.2, w, w1, by rw [w2.eqv a (fl e1) hf.1]; exact e2, fun m z' hm ez => ?_⟩
  have hml : m < l.length := by
    rw [r.length]
    exact (List.getElem?_eq_some_iff.mp ez).1
  obtain ⟨w', k1, k2⟩ := r.get (List.getElem?_eq_getElem hml)
  rw [ez] at k1
  cases k1
  rw [k2.eqv a (fl (List.getElem?_eq_getElem hml)) hf.1]
  exact e3 m _ hm (List.getElem?_eq_getElem hml)
/-- t.index(x) of a tuple of flat things: the first place -/
theorem mt_tupIndex : MtR X "tuple.index" (fun x xs H Q => ∃ a ys y j z, x = .ref a ∧ xs = [y] ∧ SqT X.K H a ys ∧ flatV y = true ∧ ys.all flatV = true ∧ ys[j]? = some z ∧ L2.eqV z y = true ∧ (∀ (m : Nat) (z' : V), m < j → ys[m]? = some z' → L2.eqV z' y = false) ∧ Q (.int (j : Nat)) H) := by
  intro pins s σ H x xs v us Q I rx rxs h
  obtain ⟨a, ys, y, j, z, rfl, rfl, hs, fy, fys, hz, hzj, hno, q⟩ := h
  cases rx
  obtain ⟨uy, rfl, ry⟩ := vals1 rxs
  obtain ⟨its, rv, pl, hlen⟩ := I.tuple hs
  obtain ⟨⟨cls, dd, data, sl⟩, ho, hc, n, hd⟩ := pl
  simp only at hc hd
  subst hc
  subst hd
  obtain ⟨u, hu, ru⟩ := rv.get hz
  obtain ⟨hjl, hje⟩ := List.getElem?_eq_some_iff.mp hu
  have hvl := rv.length
  have hj : j < its.toArray.size := by simpa using hjl
  refine call_meets PySem.F.slot_tuple_index ⟨_, ho, rfl⟩ PySem.F.entry_tuple_index (PySem.F.args_tuple_index_2 _ _)
    (TI.tuple_indexAt a its.toArray n dd sl uy (eqU y) j hj ?_ ?_) ⟨ho, fun u' hu' => mem_eqAt ry fy rv fys u' (by simpa using hu'), ⟨.int (j : Nat), H, I.tok _, ⟨_, rfl⟩, q⟩⟩
  · have e1 : its.toArray[j] = u := by simpa using hje
    rw [e1, eqU_of ru (flat_at fys hz)]
    exact hzj
  · intro m hm hmj
    have hml : m < its.length := by simpa using hm
    have hmy : m < ys.length := by omega
    have hy' : ys[m]? = some ys[m] := List.getElem?_eq_getElem hmy
    obtain ⟨u2, hu2, ru2⟩ := rv.get hy'
    have e2 : its.toArray[m] = u2 := by
      have := (List.getElem?_eq_some_iff.mp hu2).2
      simpa using this
    rw [e2, eqU_of ru2 (flat_at fys hy')]
    exact hno m _ hmj hy'
end
end R
end

section
set_option Elab.async false
set_option linter.all false
set_option maxRecDepth 100000
set_option maxHeartbeats 4000000
/-! Each node of an expression, by its parts. -/
namespace R
open PySem PySem.Spec PyProof.Rows L2
abbrev M := Sl → PH → Rs PV
def bT (m : M) : Sl → PH → Rs Bool := fun sl h => (m sl h).bind fun x h => Rs.of (tru h x) h
/-- a value, and as a test -/
structure Pr (X : Cx) (W : WX) (e : Expr) (m : M) : Prop where
  pe : PE X e (T X.K W m)
  pt : PT X e (TbR X.K W (bT m))
section
variable {X : Cx} {W : WX} {a b c e : Expr} {ma mb mc : M} {pos : Pos}
theorem Rs.bind_of {α β : Type} {o : Option α} {h : PH} {k : α → PH → Rs β} : (Rs.of o h).bind k = match o with
    | some a => k a h
    | none => .bad := by cases o <;> rfl
/-- most expressions are tested by their value -/
theorem pt_of (ha : PE X a (T X.K W ma)) (he : ∀ whole, isTrue a X.env whole = (do let v ← whole; standAt a.pos; holding [v] (truthy v))) : PT X a (TbR X.K W (bT ma)) :=
  PT.weak (pt_truth ha he) fun σ H Q ⟨ρ, sl, h, A, g⟩ => TbR.step A g fun ρ1 H1 h1 x v l k A1 r g1 => by
    cases e : tru h1 x with
    | none => rw [e] at g1; exact g1.elim
    | some t =>
      rw [e] at g1
      exact ⟨t, r.tru A1.sim e, g1.here A1⟩
theorem pr_of (ha : PE X a (T X.K W ma)) (he : ∀ whole, isTrue a X.env whole = (do let v ← whole; standAt a.pos; holding [v] (truthy v)) := by intro _; rfl) : Pr X W a ma := ⟨ha, pt_of ha he⟩

theorem n_var {i : Nat} {x : Str} (hN : X.N[i]? = some x) (hv : Vis X.env.scope x) (hd : (x == ("__debug__" : Str)) = false) (hcd : (x == ("__classdict__" : Str)) = false) : PE X (.Name x pos) (T X.K W fun sl h => Rs.of (sl.getD i none) h) :=
  PE.weak (pe_var hN hv hd hcd) fun σ H Q ⟨ρ, sl, h, A, g⟩ => by
    dsimp only at g
    cases e : sl.getD i none with
    | none => rw [e] at g; exact g.elim
    | some x =>
      rw [e] at g
      have e2 : sl[i]? = some (some x) := by
        rw [List.getD_eq_getElem?_getD] at e
        cases e3 : sl[i]? with
        | none => rw [e3] at e; cases e
        | some o => rw [e3] at e; simpa using e
      obtain ⟨v, h1, h2⟩ := A.rs.get i x e2
      exact ⟨v, h1, g.here A h2⟩
theorem n_con {x : PV} {v : V} (he : PE X e (tC v)) (r : ∀ ρ H, RP X.K ρ H x v) : PE X e (T X.K W fun _ h => .ok x h) :=
  PE.weak he fun σ H Q ⟨ρ, sl, h, A, g⟩ => g.here A (r ρ H)
theorem n_bin {op : Operator} {f : PV → PV → PH → Rs PV} (ho : OpR X (binaryOp op) (V2 X.K f)) (ha : PE X a (T X.K W ma)) (hb : PE X b (T X.K W mb)) :
    PE X (.BinOp a op b pos) (T X.K W fun sl h => (ma sl h).bind fun x h => (mb sl h).bind fun y h => f x y h) :=
  PE.weak (pe_op ho ha hb) fun σ H Q ⟨ρ, sl, h, A, g⟩ => T.step A g fun ρ1 H1 h1 x v l k A1 r g1 => T.step A1 g1 fun ρ2 H2 h2 y u l2 k2 A2 r2 g2 =>
    ⟨W, σ, ρ2, sl, h2, x, y, A2, r.mono l2 k2, r2, g2⟩
theorem un_ok : UnR X (unaryOp .USub) (V1 X.K fun x h => match x with
    | .int i => .ok (.int (-i)) h
    | _ => .bad) := by
  rintro pins s σ H x v Q I rx ⟨W, σ', ρ, sl, h, p, A, r, g⟩
  cases p <;> first | exact False.elim g | skip
  cases r
  exact un_neg pins s σ H _ v Q I rx ⟨_, rfl, g.here A (.int _)⟩
theorem n_neg (ha : PE X a (T X.K W ma)) : PE X (.UnaryOp .USub a pos) (T X.K W fun sl h => (ma sl h).bind fun x h => match x with
    | .int i => .ok (.int (-i)) h
    | _ => .bad) :=
  PE.weak (pe_un un_ok ha) fun σ H Q ⟨ρ, sl, h, A, g⟩ => T.step A g fun ρ1 H1 h1 x v l k A1 r g1 => ⟨W, σ, ρ1, sl, h1, x, A1, r, g1⟩
/-- a comparison's outcome is a bool -/
def IsB (f : PV → PV → PH → Rs PV) : Prop := ∀ x y h z h', f x y h = .ok z h' → ∃ k, z = .bl k
theorem Good.bl {r : Rs PV} {σ : L2.St} {ρ : Tr} {H : Hp} {Q : Bool → Hp → Prop} (hb : ∀ z h', r = .ok z h' → ∃ k, z = .bl k) (g : GoodB X.K W σ ρ H (r.bind fun x h => Rs.of (tru h x) h) Q) : Good X.K W σ ρ H r fun x H' => ∃ k, x = .bl k ∧ Q k H' := by
  cases r with
  | ok z h' =>
    obtain ⟨k, rfl⟩ := hb z h' rfl
    intro ρ' H' v l kp s rv
    cases rv
    exact ⟨k, rfl, g ρ' H' l kp s⟩
  | er C as h' => exact g
  | bad => exact g
theorem n_cmp {op : CmpOp} {f : PV → PV → PH → Rs PV} (ho : OpR X (compareOp op) (V2 X.K f)) (hm : behindInMarks op b = false) (ha : PE X a (T X.K W ma)) (hb : PE X b (T X.K W mb)) :
    PE X (.Compare a [op] [b] pos) (T X.K W fun sl h => (ma sl h).bind fun x h => (mb sl h).bind fun y h => f x y h) :=
  PE.weak (pe_cmpR ho ha hb hm) fun σ H Q ⟨ρ, sl, h, A, g⟩ => T.step A g fun ρ1 H1 h1 x v l k A1 r g1 => T.step A1 g1 fun ρ2 H2 h2 y u l2 k2 A2 r2 g2 =>
    ⟨W, σ, ρ2, sl, h2, x, y, A2, r.mono l2 k2, r2, g2⟩
theorem nt_cmp {op : CmpOp} {f : PV → PV → PH → Rs PV} (hf : IsB f) (ho : OpR X (compareOp op) (V2 X.K f)) (hm : behindInMarks op b = false) (ha : PE X a (T X.K W ma)) (hb : PE X b (T X.K W mb)) :
    PT X (.Compare a [op] [b] pos) (TbR X.K W (bT fun sl h => (ma sl h).bind fun x h => (mb sl h).bind fun y h => f x y h)) :=
  PT.weak (pt_cmpR ho ha hb hm) fun σ H Q ⟨ρ, sl, h, A, g⟩ => by
    unfold bT at g
    simp only [Rs.bind_assoc] at g
    exact TbR.step A g fun ρ1 H1 h1 x v l k A1 r g1 => TbR.step A1 g1 fun ρ2 H2 h2 y u l2 k2 A2 r2 g2 =>
      ⟨W, σ, ρ2, sl, h2, x, y, A2, r.mono l2 k2, r2, Good.bl (hf x y h2) g2⟩
theorem isB_cmp (op : Cp) : IsB (doCmp op) := by
  intro x y h z h' e
  cases op <;> simp only [doCmp] at e <;> (repeat' split at e) <;> first
    | cases e; exact ⟨_, rfl⟩
    | cases e
def noSetE : Expr → Bool
  | .Set .. => false
  | _ => true
def noSliceE : Expr → Bool
  | .Slice .. => false
  | _ => true
theorem marks_in {op : CmpOp} {b : Expr} (h : noSetE b = true) : behindInMarks op b = false := by
  cases b <;> first | rfl | cases h

/-! ### and, or, not, if -/
/-- the truth of a value at hand -/
theorem tru_at {pins : List (Addr × Obj)} {σ : L2.St} {H : Hp} {s : Shared} {v : Value} {x : V} {k : Bool} {R : Bool → Shared → Prop} (I : Inv X pins σ H s) (rx : RelV x v) (t : TruV X.K x H k) (h : ∀ s', Inv X pins σ H s' → R k s') :
    wpAny (model X.prog X.w) X.A (truthy v) R X.xe s :=
  thn (tru_ok pins s σ H x v (fun k' H' => k' = k ∧ H' = H) I rx ⟨k, t, rfl, rfl⟩) fun k' s' ⟨H', I', e1, e2⟩ => by subst e1 e2; exact h s' I'
theorem n_not (ha : Pr X W a ma) : Pr X W (.UnaryOp .Not a pos) fun sl h => (ma sl h).bind fun x h => match tru h x with
    | some k => .ok (.bl (!k)) h
    | none => .bad := by
  refine ⟨⟨fun pins s σ H Q I ⟨ρ, sl, h, A, g⟩ => ?_⟩, ⟨fun pins s σ H Q I ⟨ρ, sl, h, A, g⟩ => ?_⟩⟩
  · refine UnaryOp_ (thn (ha.pe.run pins s σ H (fun x H1 => ∃ t, TruV X.K x H1 t ∧ Q (.bl (!t)) H1) I (T.step A g fun ρ1 H1 h1 x v l k A1 r g1 => ?_)) fun v s1 ⟨x, H1, I1, r1, t, q1, q2⟩ => not_of (tru_at I1 r1 q1 fun s2 I2 => ⟨.bl (!t), H1, I2, rfl, q2⟩))
    cases e : tru h1 x with
    | none => simp only [e] at g1; exact g1.elim
    | some t =>
      simp only [e] at g1
      exact ⟨t, r.tru A1.sim e, g1.here A1 (.bl _)⟩
  · refine isTrue_not (ha.pt.run pins s σ H (fun c H1 => Q (!c) H1) I ?_)
    refine ⟨ρ, sl, h, A, ?_⟩
    revert g
    unfold bT
    dsimp only
    cases ma sl h with
    | er C as h' => exact fun z => z
    | bad => exact fun z => z
    | ok x h' =>
      intro g
      simp only [Rs.bind_ok] at g ⊢
      cases e : tru h' x with
      | none => simp only [e] at g; exact g.elim
      | some t =>
        simp only [e] at g
        exact g
/-- and, or: each behind the other -/
def mAnd (ma mb : M) : M := fun sl h => (ma sl h).bind fun x h => match tru h x with
    | some true => mb sl h
    | some false => .ok x h
    | none => .bad
def mOr (ma mb : M) : M := fun sl h => (ma sl h).bind fun x h => match tru h x with
    | some true => .ok x h
    | some false => mb sl h
    | none => .bad
/-- a tail of and's, or's: its value, its test -/
structure PrB (X : Cx) (W : WX) (op : BoolOp) (es : List Expr) (m : M) : Prop where
  pe : ∀ pos, PE X (.BoolOp op es pos) (T X.K W m)
  pt : ∀ pos, PW X (.BoolOp op es pos) (TbR X.K W (bT m))
theorem nb_one {op : BoolOp} (ha : Pr X W a ma) : PrB X W op [a] ma := by
  refine ⟨fun pos => pe_one ha.pe, fun pos => ?_⟩
  cases op with
  | And => exact pw_and1 ha.pt
  | Or => exact pw_or1 ha.pt
theorem nb_and {rest : List Expr} (ha : Pr X W a ma) (hb : PrB X W .And (b :: rest) mb) : PrB X W .And (a :: b :: rest) (mAnd ma mb) := by
  refine ⟨fun pos => ⟨fun pins s σ H Q I ⟨ρ, sl, h, A, g⟩ => ?_⟩, fun pos => PW.weak (pw_and ha.pt (hb.pt pos)) fun σ H Q ⟨ρ, sl, h, A, g⟩ => ?_⟩
  · refine BoolOp_and (thn (ha.pe.run pins s σ H (fun x H1 => ∃ t, TruV X.K x H1 t ∧ if t = true then T X.K W mb σ H1 Q else Q x H1) I (T.step A g fun ρ1 H1 h1 x v l k A1 r g1 => ?_)) fun v s1 ⟨x, H1, I1, r1, t, q1, q2⟩ => tru_at I1 r1 q1 fun s2 I2 => ?_)
    · cases e : tru h1 x with
      | none => simp only [e] at g1; exact g1.elim
      | some t =>
        refine ⟨t, r.tru A1.sim e, ?_⟩
        cases t with
        | true => simp only [e] at g1; exact ⟨ρ1, sl, h1, A1, g1⟩
        | false => simp only [e] at g1; exact g1.here A1 r
    · cases t with
      | true => exact (hb.pe pos).run pins s2 σ H1 Q I2 q2
      | false => exact ⟨x, H1, I2, r1, q2⟩
  · refine ⟨ρ, sl, h, A, ?_⟩
    revert g
    unfold bT mAnd
    cases ma sl h with
    | er C as h' => exact fun z => z
    | bad => exact fun z => z
    | ok x h' =>
      intro g
      simp only [Rs.bind_ok] at g ⊢
      cases e : tru h' x with
      | none => simp only [e] at g; exact g.elim
      | some t =>
        simp only [e] at g
        intro ρ1 H1 l k s1
        have A1 := A.later l k s1
        cases t with
        | true => exact ⟨ρ1, sl, h', A1, GoodB.later l k g⟩
        | false =>
          simp only [Rs.bind_ok, e] at g
          exact (GoodB.later l k g).here A1
theorem nb_or {rest : List Expr} (ha : Pr X W a ma) (hb : PrB X W .Or (b :: rest) mb) : PrB X W .Or (a :: b :: rest) (mOr ma mb) := by
  refine ⟨fun pos => ⟨fun pins s σ H Q I ⟨ρ, sl, h, A, g⟩ => ?_⟩, fun pos => PW.weak (pw_or ha.pt (hb.pt pos)) fun σ H Q ⟨ρ, sl, h, A, g⟩ => ?_⟩
  · refine BoolOp_or (thn (ha.pe.run pins s σ H (fun x H1 => ∃ t, TruV X.K x H1 t ∧ if t = true then Q x H1 else T X.K W mb σ H1 Q) I (T.step A g fun ρ1 H1 h1 x v l k A1 r g1 => ?_)) fun v s1 ⟨x, H1, I1, r1, t, q1, q2⟩ => tru_at I1 r1 q1 fun s2 I2 => ?_)
    · cases e : tru h1 x with
      | none => simp only [e] at g1; exact g1.elim
      | some t =>
        refine ⟨t, r.tru A1.sim e, ?_⟩
        cases t with
        | false => simp only [e] at g1; exact ⟨ρ1, sl, h1, A1, g1⟩
        | true => simp only [e] at g1; exact g1.here A1 r
    · cases t with
      | false => exact (hb.pe pos).run pins s2 σ H1 Q I2 q2
      | true => exact ⟨x, H1, I2, r1, q2⟩
  · refine ⟨ρ, sl, h, A, ?_⟩
    revert g
    unfold bT mOr
    cases ma sl h with
    | er C as h' => exact fun z => z
    | bad => exact fun z => z
    | ok x h' =>
      intro g
      simp only [Rs.bind_ok] at g ⊢
      cases e : tru h' x with
      | none => simp only [e] at g; exact g.elim
      | some t =>
        simp only [e] at g
        intro ρ1 H1 l k s1
        have A1 := A.later l k s1
        cases t with
        | false => exact ⟨ρ1, sl, h', A1, GoodB.later l k g⟩
        | true =>
          simp only [Rs.bind_ok, e] at g
          exact (GoodB.later l k g).here A1
theorem PrB.pr {op : BoolOp} {es : List Expr} {m : M} (h : PrB X W op es m) : Pr X W (.BoolOp op es pos) m := ⟨h.pe pos, (h.pt pos).pt⟩
theorem n_ite (hc : Pr X W c mc) (ha : Pr X W a ma) (hb : Pr X W b mb) : Pr X W (.IfExp c a b pos) fun sl h => (mc sl h).bind fun x h => match tru h x with
    | some true => ma sl h
    | some false => mb sl h
    | none => .bad := by
  refine ⟨PE.weak (pe_ifExp hc.pt ha.pe hb.pe) fun σ H Q ⟨ρ, sl, h, A, g⟩ => ?_, ⟨fun pins s σ H Q I ⟨ρ, sl, h, A, g⟩ => ?_⟩⟩
  · refine ⟨ρ, sl, h, A, ?_⟩
    revert g
    unfold bT
    dsimp only
    cases mc sl h with
    | er C as h' => exact fun z => z
    | bad => exact fun z => z
    | ok x h' =>
      intro g
      simp only [Rs.bind_ok] at g ⊢
      cases e : tru h' x with
      | none => simp only [e] at g; exact g.elim
      | some t =>
        simp only [e] at g
        intro ρ1 H1 l k s1
        have A1 := A.later l k s1
        cases t with
        | false => exact ⟨ρ1, sl, h', A1, Good.later l k g⟩
        | true => exact ⟨ρ1, sl, h', A1, Good.later l k g⟩
  · show wpAny _ _ (do
      if ← isTrue c X.env (eval c X.env) then isTrue a X.env (eval a X.env) else isTrue b X.env (eval b X.env)) _ _ s
    refine wpAny_bind (thn (hc.pt.run pins s σ H (fun t H1 => if t = true then TbR X.K W (bT ma) σ H1 Q else TbR X.K W (bT mb) σ H1 Q) I ⟨ρ, sl, h, A, ?_⟩) fun t s1 ⟨H1, I1, q⟩ => ?_)
    · revert g
      unfold bT
      dsimp only
      cases mc sl h with
      | er C as h' => exact fun z => z
      | bad => exact fun z => z
      | ok x h' =>
        intro g
        simp only [Rs.bind_ok] at g ⊢
        cases e : tru h' x with
        | none => simp only [e] at g; exact g.elim
        | some t =>
          simp only [e] at g
          intro ρ1 H1 l k s1
          have A1 := A.later l k s1
          cases t with
          | false => exact ⟨ρ1, sl, h', A1, GoodB.later l k g⟩
          | true => exact ⟨ρ1, sl, h', A1, GoodB.later l k g⟩
    · cases t with
      | true => exact ha.pt.run pins s1 σ H1 Q I1 q
      | false => exact hb.pt.run pins s1 σ H1 Q I1 q
end
end R
end

section
set_option Elab.async false
set_option linter.all false
set_option maxRecDepth 100000
set_option maxHeartbeats 4000000
/-! Nodes: argument lists, displays, subscripts. -/
namespace R
open PySem PySem.Spec PyProof.Rows L2
abbrev Ms := Sl → PH → Rs (List PV)
section
variable {X : Cx} {W : WX} {a b c e : Expr} {es : List Expr} {ma mb mc : M} {ms : Ms} {pos p : Pos}
theorem chain_marks {o1 o2 : CmpOp} {b c : Expr} (h : behindInMarks o2 c = false) : lastMarks [o1, o2] [b, c] = false := h
theorem n_chn {o1 o2 : CmpOp} {f g : PV → PV → PH → Rs PV} (h1 : OpR X (compareOp o1) (V2 X.K f)) (h2 : OpR X (compareOp o2) (V2 X.K g)) (hf : IsB f) (hg : IsB g) (hm : behindInMarks o2 c = false) (ha : PE X a (T X.K W ma)) (hb : PE X b (T X.K W mb)) (hc : PE X c (T X.K W mc)) :
    Pr X W (.Compare a [o1, o2] [b, c] pos) fun sl h => (ma sl h).bind fun x h => (mb sl h).bind fun y h => (f x y h).bind fun r h => match r with
    | .bl true => (mc sl h).bind fun z h => g y z h
    | .bl false => .ok (.bl false) h
    | _ => .bad := by
  have key : ∀ {σ : L2.St} {Q : VK} {ρ sl h H}, At X.K ρ h H sl σ → Good X.K W σ ρ H ((ma sl h).bind fun x h => (mb sl h).bind fun y h => (f x y h).bind fun r h => match r with
    | .bl true => (mc sl h).bind fun z h => g y z h
    | .bl false => .ok (.bl false) h
    | _ => .bad) Q → tChain (V2 X.K f) (V2 X.K g) (T X.K W ma) (T X.K W mb) (T X.K W mc) σ H Q := fun {σ Q ρ sl h H} A gd =>
    T.step A gd fun ρ1 H1 h1 x v l k A1 r g1 => T.step A1 g1 fun ρ2 H2 h2 y u l2 k2 A2 r2 g2 => ⟨W, σ, ρ2, sl, h2, x, y, A2, r.mono l2 k2, r2, by
      cases e : f x y h2 with
      | er C as h' => rw [e] at g2; exact g2
      | bad => rw [e] at g2; exact g2
      | ok z h3 =>
        rw [e] at g2
        obtain ⟨t, rfl⟩ := hf _ _ _ _ _ e
        intro ρ3 H3 v3 l3 k3 s3 r3
        cases r3
        have A3 := A2.later l3 k3 s3
        refine ⟨t, rfl, ?_⟩
        cases t with
        | true =>
          rw [if_pos rfl]
          exact T.step A3 (Good.later l3 k3 g2) fun ρ4 H4 h4 z w l4 k4 A4 r4 g4 => ⟨W, σ, ρ4, sl, h4, y, z, A4, r2.mono (l3.trans l4) (k3.trans k4), r4, g4⟩
        | false =>
          rw [if_neg Bool.false_ne_true]
          exact (Good.later l3 k3 g2).here A3 (.bl _)⟩
  refine ⟨PE.weak (pe_chain h1 h2 ha hb hc (chain_marks hm)) fun σ H Q ⟨ρ, sl, h, A, gd⟩ => key A gd, PT.weak (pt_chain h1 h2 ha hb hc (chain_marks hm)) fun σ H Q ⟨ρ, sl, h, A, gd⟩ => ?_⟩
  refine key A (Good.bl (fun z h' e => ?_) gd)
  cases e1 : ma sl h with
  | er C as h' => simp only [e1, Rs.bind_er] at e; cases e
  | bad => simp only [e1, Rs.bind_bad] at e; cases e
  | ok x h1 =>
    simp only [e1, Rs.bind_ok] at e
    cases e2 : mb sl h1 with
    | er C as h' => simp only [e2, Rs.bind_er] at e; cases e
    | bad => simp only [e2, Rs.bind_bad] at e; cases e
    | ok y h2 =>
      simp only [e2, Rs.bind_ok] at e
      cases e3 : f x y h2 with
      | er C as h' => simp only [e3, Rs.bind_er] at e; cases e
      | bad => simp only [e3, Rs.bind_bad] at e; cases e
      | ok z h3 =>
        simp only [e3, Rs.bind_ok] at e
        obtain ⟨t, rfl⟩ := hf _ _ _ _ _ e3
        cases t with
        | false => simp only at e; cases e; exact ⟨_, rfl⟩
        | true =>
          simp only at e
          cases e4 : mc sl h3 with
          | er C as h' => simp only [e4, Rs.bind_er] at e; cases e
          | bad => simp only [e4, Rs.bind_bad] at e; cases e
          | ok y h4 =>
            simp only [e4, Rs.bind_ok] at e
            exact hg _ _ _ _ _ e

/-! ### argument lists -/
theorem a_nil : PA X [] (TsR X.K W fun _ h => .ok [] h) := PA.weak pa_nil fun σ H Q ⟨ρ, sl, h, A, g⟩ => g.here A .nil
theorem star_no {e : Expr} {es : List Expr} (h : isStar e = false) : starEach (e :: es) X.env = (false, eval e X.env) :: starEach es X.env := by
  cases e <;> first | rfl | cases h
theorem a_cons (hn : isStar e = false) (he : PE X e (T X.K W ma)) (hr : PA X es (TsR X.K W ms)) : PA X (e :: es) (TsR X.K W fun sl h => (ma sl h).bind fun x h => (ms sl h).bind fun r h => .ok (x :: r) h) :=
  PA.weak (pa_cons he hr (star_no hn)) fun σ H Q ⟨ρ, sl, h, A, g⟩ => TsR.step A g fun ρ1 H1 h1 x v l k A1 r g1 => TsR.stepL A1 g1 fun ρ2 H2 h2 y u l2 k2 A2 r2 g2 => g2.here A2 (.cons (r.mono l2 k2) r2)
theorem a_star (he : PE X e (T X.K W ma)) (hr : PA X es (TsR X.K W ms)) : PA X (.Starred e p :: es) (TsR X.K W fun sl h => (ma sl h).bind fun x h => match seqOf h x with
    | some l => (ms sl h).bind fun r h => .ok (l ++ r) h
    | none => .bad) :=
  PA.weak (StX.pa_star he hr) fun σ H Q ⟨ρ, sl, h, A, g⟩ => TsR.step A g fun ρ1 H1 h1 x v l k A1 r g1 => by
    cases e : seqOf h1 x with
    | none => rw [e] at g1; exact g1.elim
    | some xs =>
      rw [e] at g1
      obtain ⟨q, vs, rfl, hq, hr⟩ := r.seq A1.sim e
      exact ⟨q, vs, rfl, hq.symm, TsR.stepL A1 g1 fun ρ2 H2 h2 y u l2 k2 A2 r2 g2 => g2.here A2 ((hr.mono l2 k2).append r2)⟩
theorem n_tup {k0} (h : PA X es (TsR X.K W ms)) : PE X (.Tuple es k0 pos) (T X.K W fun sl h => (ms sl h).bind fun l h => if l.length ≤ sizeL then .ok (.tup l) h else .bad) :=
  PE.weak (pe_tupF h) fun σ H Q ⟨ρ, sl, h, A, g⟩ => T.stepL A g fun ρ1 H1 h1 x v l k A1 r g1 => by
    split at g1
    · rename_i hz
      exact ⟨by rw [← r.length, ← sizeL_eq]; exact hz, g1.newT A1 r⟩
    · exact g1.elim
theorem n_lst {fr : Bool} (h : PA X es (TsR X.K W ms)) : PE X (.List es pos) (T X.K W fun sl h => (ms sl h).bind fun l h => if l.length ≤ sizeL then newF fr l h else .bad) :=
  PE.weak (pe_lst h) fun σ H Q ⟨ρ, sl, h, A, g⟩ => T.stepL A g fun ρ1 H1 h1 x v l k A1 r g1 => by
    split at g1
    · rename_i hz
      exact ⟨by rw [← r.length, ← sizeL_eq]; exact hz, g1.newF A1 r⟩
    · exact g1.elim

/-! ### subscripts -/
theorem plainIx_of {b : Expr} (h : noSliceE b = true) : PlainIx b := by
  intro o i
  cases b <;> first | rfl | cases h
theorem n_ix (hu : X.A.units + 1 < cLine) (hs : PlainIx b) (ha : PE X a (T X.K W ma)) (hb : PE X b (T X.K W mb)) :
    PE X (.Subscript a b pos) (T X.K W fun sl h => (ma sl h).bind fun x h => (mb sl h).bind fun y h => doIx x y h) :=
  PE.weak (pe_ix (ix_ok hu) ha hb hs) fun σ H Q ⟨ρ, sl, h, A, g⟩ => T.step A g fun ρ1 H1 h1 x v l k A1 r g1 => T.step A1 g1 fun ρ2 H2 h2 y u l2 k2 A2 r2 g2 =>
    ⟨W, σ, ρ2, sl, h2, x, y, A2, r.mono l2 k2, r2, g2⟩
theorem intOf_some {y : PV} {i : Int} {K : PySem.W.Frag} {ρ : Tr} {H : Hp} {v : V} (r : RP K ρ H y v) (e : intOf y = some i) : y = .int i ∧ v = .int i := by
  cases y <;> first | (cases e; cases r; exact ⟨rfl, rfl⟩) | cases e
theorem n_slT {p2 : Pos} (ha : PE X a (T X.K W ma)) (hb : PE X b (T X.K W mb)) : PE X (.Subscript a (.Slice none (some b) none p2) pos) (T X.K W fun sl h => (ma sl h).bind fun x h => (mb sl h).bind fun y h => match intOf y with
    | some j => doSl x none (some j) h
    | none => .bad) :=
  PE.weak (pe_slice sl_ok ha po_none (po_some hb)) fun σ H Q ⟨ρ, sl, h, A, g⟩ => T.step A g fun ρ1 H1 h1 x v l k A1 r g1 => T.step A1 g1 fun ρ2 H2 h2 y u l2 k2 A2 r2 g2 => by
    cases e : intOf y with
    | none => simp only [e] at g2; exact g2.elim
    | some j =>
      simp only [e] at g2
      exact ⟨j, (intOf_some r2 e).2, W, σ, ρ2, sl, h2, x, A2, r.mono l2 k2, g2⟩
theorem n_slF {p2 : Pos} (ha : PE X a (T X.K W ma)) (hb : PE X b (T X.K W mb)) : PE X (.Subscript a (.Slice (some b) none none p2) pos) (T X.K W fun sl h => (ma sl h).bind fun x h => (mb sl h).bind fun y h => match intOf y with
    | some j => doSl x (some j) none h
    | none => .bad) :=
  PE.weak (pe_slice sl_ok ha (po_some hb) po_none) fun σ H Q ⟨ρ, sl, h, A, g⟩ => T.step A g fun ρ1 H1 h1 x v l k A1 r g1 => T.step A1 g1 fun ρ2 H2 h2 y u l2 k2 A2 r2 g2 => by
    cases e : intOf y with
    | none => simp only [e] at g2; exact g2.elim
    | some j =>
      simp only [e] at g2
      exact ⟨j, (intOf_some r2 e).2, W, σ, ρ2, sl, h2, x, A2, r.mono l2 k2, g2⟩
theorem n_slB {p2 : Pos} (ha : PE X a (T X.K W ma)) (hb : PE X b (T X.K W mb)) (hc : PE X c (T X.K W mc)) : PE X (.Subscript a (.Slice (some b) (some c) none p2) pos) (T X.K W fun sl h => (ma sl h).bind fun x h => (mb sl h).bind fun y h => match intOf y with
    | some i => (mc sl h).bind fun z h => match intOf z with
      | some j => doSl x (some i) (some j) h
      | none => .bad
    | none => .bad) :=
  PE.weak (pe_slice sl_ok ha (po_some hb) (po_some hc)) fun σ H Q ⟨ρ, sl, h, A, g⟩ => T.step A g fun ρ1 H1 h1 x v l k A1 r g1 => T.step A1 g1 fun ρ2 H2 h2 y u l2 k2 A2 r2 g2 => by
    cases e : intOf y with
    | none => simp only [e] at g2; exact g2.elim
    | some i =>
      simp only [e] at g2
      refine ⟨i, (intOf_some r2 e).2, T.step A2 g2 fun ρ3 H3 h3 z w l3 k3 A3 r3 g3 => ?_⟩
      cases e3 : intOf z with
      | none => simp only [e3] at g3; exact g3.elim
      | some j =>
        simp only [e3] at g3
        exact ⟨j, (intOf_some r3 e3).2, W, σ, ρ3, sl, h3, x, A3, r.mono (l2.trans l3) (k2.trans k3), g3⟩
theorem n_rev {k : Nat} {p1 p2 p3 : Pos} (ha : PE X a (T X.K W ma)) : PE X (.Subscript a (.Slice none none (some (.UnaryOp .USub (.Constant (.int 1) k p1) p2)) p3) pos) (T X.K W fun sl h => (ma sl h).bind fun x h => match x with
    | .ref n => (match h[n]? with
      | some (.lst l) => newO (.lst l.reverse) h
      | _ => .bad)
    | _ => .bad) :=
  PE.weak (pe_revL ha) fun σ H Q ⟨ρ, sl, h, A, g⟩ => T.step A g fun ρ1 H1 h1 x v l k A1 r g1 => by
    cases x <;> first | exact False.elim g1 | skip
    rename_i n
    dsimp only at g1
    split at g1
    · rename_i xs e
      obtain ⟨q, vs, rfl, _, h2, h3⟩ := r.lstAt A1.sim e
      exact ⟨q, vs, rfl, SqL.of h2, g1.newL A1 h3.reverse⟩
    · exact g1.elim
end
end R
end

section
set_option Elab.async false
set_option linter.all false
set_option maxRecDepth 100000
set_option maxHeartbeats 4000000
/-! What a def promises where no repr is under way. -/
namespace R
open PySem PySem.Spec PyProof.Rows L2
structure GOk (pr : Program) (wo : World) (K : PySem.W.Frag) (mg : Str → Option Value) (ba : Heap) (cx : CXT) (n : Nat) (g : Addr) (fd : FuncData) (ps : List Str) (sp : Sp) : Prop where
  len : ∀ xs H Q E, sp xs H Q E → xs.length = ps.length
  run : ∀ (B : Around) (os : List Env) (s : Shared) (H : Hp) (ar : Args) (us : List Value) (xs : List V) (Q : VK) (E : XK),
    Room n B → B.guards = some [] → Env0 pr wo K mg ba B os s H → BindsTo s fd ar (ps.zip us) → Vals xs us → sp xs H Q E →
      codeAny (model pr wo) B (.call (.ref g) ar) (CR cx os pr wo H s Q E) s
def GR (pr : Program) (wo : World) (K : PySem.W.Frag) (mg : Str → Option Value) (ba : Heap) (cx : CXT) (n : Nat) (g : Addr) (sp : Sp) : Prop :=
  ∀ (B : Around) (os : List Env) (s : Shared) (H : Hp) (us : List Value) (xs : List V) (Q : VK) (E : XK),
    Room n B → B.guards = some [] → Env0 pr wo K mg ba B os s H → Vals xs us → sp xs H Q E →
      codeAny (model pr wo) B (.call (.ref g) ⟨us, []⟩) (CR cx os pr wo H s Q E) s
section
variable {pr : Program} {wo : World} {K : PySem.W.Frag} {mg : Str → Option Value} {ba : Heap} {cx : CXT} {n : Nat} {g : Addr} {fd : FuncData} {ps : List Str} {sp : Sp}
theorem GOk.raw (F : GOk pr wo K mg ba cx n g fd ps sp) (hb : Binds K fd ps []) : GR pr wo K mg ba cx n g sp := by
  intro B os s H us xs Q E r1 r2 e0 rv hs
  have hl : us.length = ps.length := by rw [← rv.length]; exact F.len _ _ _ _ hs
  have hk : K.In s.heap := e0.mod.kin.keeps fun b o e => (e0.bs b o e).1
  have hz := hb s us hk (by rw [List.append_nil]; exact hl)
  rw [List.append_nil] at hz
  exact F.run B os s H ⟨us, []⟩ us xs Q E r1 r2 e0 hz rv hs
/-- a def of the text, by its body -/
theorem g_of {nm ql : Str} {pa : Arguments} {bo : List Stmt} {sc : Scope} {dV kV doc pm cdv ct oc : Value} {an od : Option Addr} {osl : Array (Option Value)} {N : List Str}
    (lk : K.lookup g = some ⟨oc, od, .func (PySem.W.fnOf nm ql pa bo sc dV kV doc pm an cdv ct), osl⟩) (hcd : PySem.W.codeIn K cdv ql = true) (S : FnScope N ps sc)
    (len : ∀ xs H Q E, sp xs H Q E → xs.length = ps.length)
    (hbo : ∀ (B : Around) (os : List Env) (s : Shared) (H : Hp) (xs : List V) (Q : VK) (E : XK), Room n (B.deeper (envOfC ql sc s.heap.objs.size g cdv)) → B.guards = some [] → sp xs H Q E →
      ∃ t, PSs (cxOf cx pr wo K mg ba N ql sc g cdv B os s H E) bo t ∧ t { nx := fun _ H' => Q .non H', rt := Q } (start N xs) H) :
    GOk pr wo K mg ba cx (n + 1) g (PySem.W.fnOf nm ql pa bo sc dV kV doc pm an cdv ct) ps sp := by
  refine ⟨len, fun B os s H ar us xs Q E r1 r2 e0 hb rv hs => ?_⟩
  have kx : K.In s.heap := e0.mod.kin.keeps fun b o e => (e0.bs b o e).1
  have nl : s.heap.NoLimit := e0.mod.nolimit.keeps fun b o e => (e0.bs b o e).1
  refine codeAny_call_function r1.depth (kx _ _ lk) rfl S.co S.gen rfl (PySem.W.codeRec_of kx hcd) (hb _ _ _ _ ?_)
  refine wpAny_newFunctionEnv_cells S.kind (fun ⟨y, v⟩ hy => ?_) fun env he s1 x => ?_
  · rcases S.par y (List.of_mem_zip hy).1 with q | q
    · exact Or.inl q
    · exact Or.inr ⟨q, PySem.W.cellsFrom_some _ _ _ (Or.inl q)⟩
  subst he
  refine ⟨nl.keeps x.toInCall.keep, codeAny_func ?_⟩
  obtain ⟨t, ht, hq⟩ := hbo B os s H xs Q E (r1.deeper _) r2 hs
  refine wpAny_mono (ht.run [] s1 (start N xs) H _ (inv_start S r1.hd e0 (len _ _ _ _ hs) rv x) hq) (fun fl s' hz => ?_) fun _ _ z => z
  cases fl with
  | ret u =>
    obtain ⟨v, _, H', J, r, q⟩ := hz
    exact ⟨v, H', J.os, J.bare, J.base, J.hok, r, q⟩
  | next =>
    obtain ⟨_, H', J, q⟩ := hz
    exact ⟨.non, H', J.os, J.bare, J.base, J.hok, rfl, q⟩
  | brk =>
    obtain ⟨_, _, _, z⟩ := hz
    exact z.elim
  | cont =>
    obtain ⟨_, _, _, z⟩ := hz
    exact z.elim
theorem g_ofD {x ql : Str} {pa : Arguments} {bo : List Stmt} {sc : Scope} {N : List Str} (F : FunD K x ql pa bo sc [] [] g fd) (S : FnScope N ps sc) (len : ∀ xs H Q E, sp xs H Q E → xs.length = ps.length)
    (hbo : ∀ (cdv : Value) (B : Around) (os : List Env) (s : Shared) (H : Hp) (xs : List V) (Q : VK) (E : XK), Room n (B.deeper (envOfC ql sc s.heap.objs.size g cdv)) → B.guards = some [] → sp xs H Q E →
      ∃ t, PSs (cxOf cx pr wo K mg ba N ql sc g cdv B os s H E) bo t ∧ t { nx := fun _ H' => Q .non H', rt := Q } (start N xs) H) :
    GOk pr wo K mg ba cx (n + 1) g fd ps sp := by
  obtain ⟨_, _, _, _, _, _, _, cdv, _, _, rfl, lk, hcd, _, _⟩ := F.ex
  exact g_of lk hcd S len fun B os s H xs Q E => hbo cdv B os s H xs Q E
end

/-! ### the law's own call -/
section
variable {pr : Program} {wo : World} {K : PySem.W.Frag} {mg mb : Str → Option Value} {n : Nat} {g a : Addr} {fd : FuncData} {x : Str} {sp : Sp} {s1 : Shared} {us : List Value} {ns : List Int}
theorem CX_false {pr : Program} {wo : World} {H : Hp} {s : Shared} {e : Value} {s' : Shared} (h : CX pr wo [] H s (fun _ _ _ => False) e s') : False := by
  obtain ⟨_, _, _, _, _, _, _, _, _, _, _, _, z⟩ := h
  exact z
/-- what is hidden -/
theorem only_dict {H : Hp} (hH : ∀ b, H b ≠ none → b = a) (ha : s1.heap.get? a = some { cls := .type "list", data := .seq us.toArray }) {b : Addr} {o : Obj} {es : Array DictEntry} {ep : Nat} (e : s1.heap.get? b = some o) (d : o.data = .dict es ep) : H b = none := by
  cases q : H b with
  | none => rfl
  | some u =>
    obtain rfl := hH b (by rw [q]; exact fun z => nomatch z)
    rw [ha] at e
    cases e
    exact nomatch (show Data.seq us.toArray _ = Data.dict es ep from d)
theorem only_ns {H : Hp} (hH : ∀ b, H b ≠ none → b = a) (ha : s1.heap.get? a = some { cls := .type "list", data := .seq us.toArray }) {b : Addr} {m : Str → Option Value} (h : s1.heap.Ns b m) : (hidT s1.heap H).Ns b m := by
  obtain ⟨o, es, ep, e, d, r⟩ := h
  exact ⟨o, es, ep, hidT_get e (only_dict hH ha e d), d, r⟩
/-- the law's promise, at the heap behind the top -/
theorem g_law0 (kx : K.In s1.heap) (hns : s1.heap.Ns mainGlobals mg) (hb : s1.heap.Ns builtinsNs mb) (hbb : ∀ x : Str, x ≠ "__name__" → mb x = bootBuiltins x) (hlim : s1.heap.NoLimit) (hg : s1.gens = #[])
    (ha : s1.heap.get? a = some { cls := .type "list", data := .seq us.toArray }) (hr : Room n callerA)
    (F : ∀ ba : Heap, K.In ba → ba.Ns mainGlobals mg → GOk pr wo K mg ba (CX pr wo) n g fd [x] sp) (hbind : ∀ (s : Shared) (u : Value), BindsTo s fd ⟨[u], []⟩ [(x, u)])
    {H : Hp} (hO : Only H) (hok : HOk pr wo H s1.heap) (hH : ∀ b, H b ≠ none → b = a) (hK : H a ≠ none → K.lookup a = none)
    (hsp : sp [.ref a] H (fun v _ => v = .bl true) fun _ _ _ => False) :
    codeAny (model pr wo) callerA (.call (.ref g) ⟨[.ref a], []⟩) (fun r s' => r = .ok (.ret (.bool true)) ∧ OldK s1.heap s'.heap ∧ s'.os = s1.os ∧ AllBare s'.gens) s1 := by
  have kb : K.In (hidT s1.heap H) := fun b o e => by
    refine hidT_get (kx b o e) ?_
    cases q : H b with
    | none => rfl
    | some u =>
      have n1 : H b ≠ none := by rw [q]; exact fun z => nomatch z
      obtain rfl := hH b n1
      rw [hK n1] at e
      cases e
  have hM : Mod K mg (hidT s1.heap H) := ⟨kb, only_ns hH ha hns, ⟨mb, only_ns hH ha hb, hbb⟩, hlim.elim fun mc z => ⟨mc, only_ns hH ha z.1, z.2⟩⟩
  have e0 : Env0 pr wo K mg (hidT s1.heap H) callerA [] s1 H :=
    ⟨rfl, hM, fun _ _ => of_hidT, Nat.le_of_eq (hidT_size _ _), True.intro, fun _ z => absurd z List.not_mem_nil, hok, AllBare.of_eq hg⟩
  have hrun := (F _ kb (only_ns hH ha hns)).run callerA [] s1 H ⟨[.ref a], []⟩ [.ref a] [.ref a] _ _ hr rfl e0 (hbind s1 (.ref a)) (.cons rfl .nil) hsp
  refine codeAny_mono hrun fun r s' h => ?_
  cases r with
  | error e =>
    exfalso
    exact CX_false h
  | ok fl =>
    cases fl with
    | ret u =>
      obtain ⟨v, H', ho, hbr, un, hok', rv, hv⟩ := h
      obtain rfl : v = .bl true := hv
      obtain rfl : u = Value.bool true := rv
      refine ⟨rfl, OldK.of_keep fun b o e => ?_, ho, hbr⟩
      cases q : H b with
      | none => exact un.keep b o e q List.not_mem_nil List.not_mem_nil
      | some u =>
        rcases hO b with z | ⟨ob, xs, z⟩
        · exact nomatch (q.symm.trans z)
        · have e1 := (hok b _ z).1
          have e2 := (hok' b _ (un.frzs b ob _ z)).1
          exact e2.trans (e1.symm.trans e)
    | next => exact h.elim
    | brk => exact h.elim
    | cont => exact h.elim
/-- the same, the script told -/
theorem g_law (kx : K.In s1.heap) (hns : s1.heap.Ns mainGlobals mg) (hb : s1.heap.Ns builtinsNs mb) (hbb : ∀ x : Str, x ≠ "__name__" → mb x = bootBuiltins x) (hlim : s1.heap.NoLimit) (hg : s1.gens = #[])
    (ha : s1.heap.get? a = some { cls := .type "list", data := .seq us.toArray }) (hi : IntsAre us ns) (hl : ns.length ≤ sizeLine) (hr : Room n callerA)
    (F : ∀ ba : Heap, K.In ba → ba.Ns mainGlobals mg → GOk pr wo K mg ba (CX pr wo) n g fd [x] sp) (hbind : ∀ (s : Shared) (u : Value), BindsTo s fd ⟨[u], []⟩ [(x, u)])
    (hsp : ∀ H : Hp, Only H → SqL K H a (ns.map V.int) → sp [.ref a] H (fun v _ => v = .bl true) fun _ _ _ => False) :
    codeAny (model pr wo) callerA (.call (.ref g) ⟨[.ref a], []⟩) (fun r s' => r = .ok (.ret (.bool true)) ∧ OldK s1.heap s'.heap ∧ s'.os = s1.os ∧ AllBare s'.gens) s1 := by
  have rv : Vals (ns.map V.int) us := vals_ints hi
  have hz : (ns.map V.int).length ≤ sizeLine := by rw [List.length_map]; exact hl
  cases hk : K.lookup a with
  | some o =>
    obtain rfl : _ = o := Option.some.inj (ha.symm.trans (kx a o hk))
    have hO : Only (fun _ => none) := fun _ => Or.inl rfl
    exact g_law0 kx hns hb hbb hlim hg ha hr F hbind hO (fun _ _ z => nomatch z) (fun _ z => absurd rfl z) (fun z => absurd rfl z)
      (hsp _ hO (Or.inr ⟨_, us.toArray, _, hk, rfl, rfl, rfl, by rw [List.size_toArray, ← rv.length]; exact hz, rv⟩))
  | none =>
    let ob : Obj := { cls := .type "list", data := .seq us.toArray }
    let H : Hp := fun b => if b = a then some (.frz ob (.lst (ns.map V.int))) else none
    have hHa : H a = some (.frz ob (.lst (ns.map V.int))) := if_pos rfl
    have hHn : ∀ b, b ≠ a → H b = none := fun b z => if_neg z
    have hO : Only H := fun b => by
      by_cases hb : b = a
      · subst hb; exact Or.inr ⟨_, _, hHa⟩
      · exact Or.inl (hHn b hb)
    refine g_law0 kx hns hb hbb hlim hg ha hr F hbind hO (fun b u z => ?_) (fun b z => Classical.byContradiction fun q => z (hHn b q)) (fun _ => hk) (hsp _ hO (Or.inl (Or.inr ⟨_, hHa⟩)))
    by_cases hb : b = a
    · subst hb
      obtain rfl := Option.some.inj (hHa.symm.trans z)
      exact ⟨ha, hz, us, _, rv, ha⟩
    · rw [hHn b hb] at z
      cases z
end
/-- the goal that a head leaves -/
theorem g_walk {l : PySem.W.OpenLaw} {m k : Nat} {q : Program} {loose : List Str} {XP : (Str → Option Value) → Heap → Prop} {YP : World → Heap → Prop} {d : DefRec} {x : Str} (hm : l.most = some m) (hm2 : m ≤ sizeLine) (hdf : d.params.defaults = []) (hr : Room k callerA)
    (F : ∀ (wo : World) (mg : Str → Option Value) (fa : Addr) (h : Heap), YP wo h → h.Ns mainGlobals mg → mg d.name = some (.ref fa) →
      ∃ (K : PySem.W.Frag) (fd : FuncData) (sp : Sp), K.In h ∧ (∀ (s : Shared) (u : Value), BindsTo s fd ⟨[u], []⟩ [(x, u)]) ∧
        (∀ (H : Hp) (a : Addr) (ns : List Int), ns.length ≤ m → Only H → SqL K H a (ns.map V.int) → sp [.ref a] H (fun v _ => v = .bl true) fun _ _ _ => False) ∧
        ∀ ba : Heap, K.In ba → ba.Ns mainGlobals mg → GOk l.prog wo K mg ba (CX l.prog wo) k fa fd [x] sp) :
    PySem.W.WalkO q loose XP YP l.row.toRowW d [] (fun f vs => PySem.call f vs) :=
  Att.attach_call hm hdf fun wo _ s1 mg _ fa _ _ _ _ a _ ns G Y _ _ _ hmg hobj hints hlen hg =>
    (F wo mg fa _ Y G.T.g hmg).elim fun _ z => z.elim fun _ z => z.elim fun _ z =>
      g_law z.1 G.T.g G.T.b G.T.builtins G.T.nolimit hg hobj hints (Nat.le_trans hlen hm2) hr z.2.2.2 z.2.1 fun H hO hS => z.2.2.1 H a ns hlen hO hS
end R
end

section
set_option Elab.async false
set_option linter.all false
set_option maxRecDepth 100000
set_option maxHeartbeats 4000000
/-! What is known of the program; calls. -/
namespace R
open PySem PySem.Spec PyProof.Rows L2
/-- what a def promises -/
def spF (K : PySem.W.Frag) (F : FF) (d : Str) : Sp := fun vs H Q E => ∃ ρ as h, Sim K ρ h H ∧ RPs K ρ H as vs ∧ Good K (fun c e _ H' => E c e H') [] ρ H (F d as h) Q
theorem Good.off {K : PySem.W.Frag} {W : WX} {σ : L2.St} {ρ : Tr} {H : Hp} {r : Rs PV} {Q : VK} (g : Good K W σ ρ H r Q) : Good K (fun c e _ H' => W c e σ H') [] ρ H r Q := by
  cases r with
  | ok _ _ => exact g
  | er _ _ _ => exact g
  | bad => exact g
/-- what is known of the program's text; fad, fdo, pso: the defs' places, data, parameters -/
structure Fs (P : Pg) (g : GE) (fad : Str → Addr) (fdo : Str → FuncData) (pso : Str → List Str) (K : PySem.W.Frag) (mg : Str → Option Value) : Prop where
  con : ∀ x v, g x = some (.con v) → ∃ u V, mg x = some u ∧ RelV V u ∧ ∀ ρ H, RP K ρ H v V
  fn : ∀ x ps, g x = some (.fn ps) → mg x = some (.ref (fad x)) ∧ PySem.W.keepIn K (.ref (fad x)) = true ∧ pso x = ps
  gl : ∀ x, P.glb.contains x = true → He.ga K x = fad x ∧ PySem.W.keepIn K (.ref (fad x)) = true
  glf : ∀ x ps, g x = some (.fn ps) → He.ga K x = fad x
  cls : ∀ x, g x = some .cls → mg x = some (.ref (He.ga K x))
  ckp : ∀ x, g x = some .cls → PySem.W.keepIn K (.ref (He.ga K x)) = true
  mkd : ∀ C d, P.meth C strInit = some d → Mk K (He.ga K C) (fad d)
  met : ∀ C m d, P.meth C m = some d → Cls K (He.ga K C) ∧ BMeth K (He.ga K C) m (fad d)
  ne : ∀ C d, P.meth C strEqS = some d → PySem.W.findIn K (.ref (He.ga K C)) "__ne__" = some (some (.builtin "object.__ne__")) ∧ PySem.W.mroIn K (He.ga K C) (.type "object") = some true
  fld : ∀ C f, P.hasF C f = true → Cls K (He.ga K C) ∧ NoAttr K (He.ga K C) f
  free : ∀ x, g x = some .free → mg x = none
  bnd : ∀ d fd, P.fn d = some fd → Binds K (fdo d) (pso d) []
  isT : ∀ C, P.icl.contains C = true → ∀ t ∈ (["NoneType", "bool", "int", "str", "tuple", "list", "dict"] : List String), PySem.W.kitOne K (.type t) (.ref (He.ga K C)) = some false
  isO : ∀ D l, P.mro.lookup D = some l → (∀ t ∈ (["bool", "int", "str", "tuple", "list", "dict"] : List String), PySem.W.kitOne K (.ref (He.ga K D)) (.type t) = some false) ∧
    (∀ C, P.icl.contains C = true → PySem.W.kitOne K (.ref (He.ga K D)) (.ref (He.ga K C)) = some (l.contains C)) ∧ Cls K (He.ga K D) ∧ PySem.W.findIn K (.ref (He.ga K D)) "__class__" = some (some (.builtin "object.__class__")) ∧ PySem.W.mroIn K (He.ga K D) (.type "object") = some true
  isC : PySem.W.specialIn K (.builtin "object.__class__") "__get__" = some (some (.builtin "getset_descriptor.__get__")) ∧ PySem.W.takesIn K (.builtin "object.__class__") = some true
/-- what the defs promise at a level -/
abbrev Fd (fad : Str → Addr) (fdo : Str → FuncData) (pso : Str → List Str) (F : FF) (k : Nat) (prog : Program) (w : World) (K : PySem.W.Frag) (mg : Str → Option Value) (base : Heap) : Prop :=
  ∀ d, GOk prog w K mg base (CX prog w) k (fad d) (fdo d) (pso d) (spF K F d)
/-- the context of a walk -/
structure Ct (P : Pg) (g : GE) (fad : Str → Addr) (fdo : Str → FuncData) (pso : Str → List Str) (F : FF) (k : Nat) (X : Cx) (W : WX) : Prop where
  fs : Fs P g fad fdo pso X.K X.mg
  fd : Fd fad fdo pso F k X.prog X.w X.K X.mg X.base
  fb : ∀ d as h, P.fn d = none → F d as h = .bad
  room : Room (k + 1) X.A
  gd : X.A.guards = some []
  calm : X.calm = true
  nd : X.N.Nodup
  tk : Takes X W
section
variable {X : Cx} {CX : CXT} {k : Nat} {f : Addr} {sp : Sp} {E : XK} {x : Str} {e : Expr} {es : List Expr} {W : WX} {ma : M} {ms : Ms} {p pos : Pos}
theorem run_fnRA {pins : List (Addr × Obj)} {σ : L2.St} {H : Hp} {s : Shared} {Q : VK} {us : List Value} {vs : List V} (F : GR X.prog X.w X.K X.mg X.base CX k f sp) (hr : Room k X.A) (hgd : X.A.guards = some []) (hx : PassesAt CX X σ E) (I : Inv X pins σ H s) (r : Vals vs us) (h : sp vs H Q E) :
    codeAny (model X.prog X.w) X.A (.call (.ref f) ⟨us, []⟩) (fun r s' => match r with | .ok (.ret v) => EP X pins σ Q v s' | .ok _ => False | .error e => X.xe e s') s := by
  refine codeAny_mono (F X.A X.stack s H us vs Q E hr hgd I.env0 r h) fun r s' hq => ?_
  cases r with
  | error e => exact hx pins H s e s' I hq
  | ok fl =>
    cases fl with
    | ret u => exact I.after hq
    | next => exact False.elim hq
    | brk => exact False.elim hq
    | cont => exact False.elim hq
/-- the arguments of a call, whatever stands there -/
def CA (X : Cx) (W : WX) (as : List Expr) (m : Ms) : Prop := ∀ (pos : Pos) (f : Value) (first : List Value) (pins : List (Addr × Obj)) (s : Shared) (σ : L2.St) (H : Hp) (Q' : List V → Hp → Prop) (Q : VK), PySem.W.keepIn X.K f = true → Inv X pins σ H s →
  TsR X.K W m σ H Q' → (∀ us vs s1 H1, Inv X pins σ H1 s1 → Vals vs us → Q' vs H1 → wpAny (model X.prog X.w) X.A (call f (first ++ us)) (EP X pins σ Q) X.xe s1) →
  wpAny (model X.prog X.w) X.A (callWith pos f first (backTo pos (starEach as X.env)) []) (EP X pins σ Q) X.xe s
theorem ca_nil : CA X W [] fun _ h => .ok [] h := fun pos f first pins s σ H Q' Q hk I ⟨ρ, sl, h, A, g⟩ n => PySem.W.callWith_K0 I.kIn hk (n [] [] s H I .nil (g.here A .nil))
theorem ca_cons (hn : isStar e = false) (ha : PA X (e :: es) (TsR X.K W ms)) : CA X W (e :: es) ms := fun pos f first pins s σ H Q' Q hk I t n => by
  cases hs : (backTo pos (starEach es X.env)).any (·.1) with
  | false => exact PySem.W.callWith_K (h₀ := X.base) I.ok.mod.kin hk (thn (ha.run pos pins s σ H _ I t) fun us s1 ⟨vs, H1, I1, r, q⟩ => ⟨I1.kIn, n us vs s1 H1 I1 r q⟩) (star_no hn) hs
  | true => exact PySem.W.callWith_S2 (h₀ := X.base) I.ok.mod.kin hk (thn (ha.run pos pins s σ H _ I t) fun us s1 ⟨vs, H1, I1, r, q⟩ => ⟨I1.kIn, n us vs s1 H1 I1 r q⟩) (star_no hn) hs
theorem ca_star (he : PE X e (T X.K W ma)) : CA X W [.Starred e p] fun sl h => (ma sl h).bind fun x h => match seqOf h x with
    | some l => .ok l h
    | none => .bad := fun pos f first pins s σ H Q' Q hk I ⟨ρ, sl, h, A, g⟩ n => by
  refine PySem.W.callWith_S (h₀ := X.base) I.ok.mod.kin hk (thn (he.run pins s σ H (fun y H1 => ∃ a xs, y = V.ref a ∧ (SqT X.K H1 a xs ∨ SqL X.K H1 a xs) ∧ Q' xs H1) I (TsR.step A g fun ρ1 H1 h1 x v l k A1 r g1 => ?_)) fun v s1 ⟨y, H1, I1, ry, a, xs, ey, hxs, q⟩ => ?_) rfl
  · cases e2 : seqOf h1 x with
    | none => rw [e2] at g1; exact g1.elim
    | some xs =>
      rw [e2] at g1
      obtain ⟨q, vs, rfl, hq, hr⟩ := r.seq A1.sim e2
      exact ⟨q, vs, rfl, hq.symm, g1.here A1 hr⟩
  · subst ey
    obtain rfl : v = Value.ref a := ry
    exact StX.star_any I1 hxs fun us s2 I2 rv => ⟨I2.kIn, n us xs s2 H1 I2 rv q⟩
variable {P : Pg} {g : GE} {F : FF} {fad : Str → Addr} {fdo : Str → FuncData} {pso : Str → List Str}
/-- a promise used: the caller's end -/
theorem sp_use {σ : L2.St} {ρ : Tr} {H : Hp} {h : PH} {sl : Sl} {Q : VK} {d : Str} {as : List PV} {vs : List V} (A : At X.K ρ h H sl σ) (r : RPs X.K ρ H as vs) (gd : Good X.K W σ ρ H (F d as h) Q) : spF X.K F d vs H Q (WE W σ) := ⟨ρ, as, h, A.sim, r, gd.off⟩
theorem sp_none {K : PySem.W.Frag} {d : Str} {vs : List V} {H : Hp} {Q : VK} {E : XK} (h : ∀ as h, F d as h = .bad) (s : spF K F d vs H Q E) : False := by
  obtain ⟨ρ, as, h1, _, _, g⟩ := s
  rw [h] at g
  exact g
theorem Ct.fnr (C : Ct P g fad fdo pso F k X W) (d : Str) : GR X.prog X.w X.K X.mg X.base (L2.CX X.prog X.w) k (fad d) (spF X.K F d) := by
  cases e : P.fn d with
  | none => exact fun A outer s H us vs Q E hr hgd e0 r hs => (sp_none (fun as h => C.fb d as h e) hs).elim
  | some fd =>
    exact (C.fd d).raw (C.fs.bnd d fd e)
theorem Ct.call (C : Ct P g fad fdo pso F k X W) (d : Str) {pins : List (Addr × Obj)} {σ : L2.St} {H : Hp} {s : Shared} {Q : VK} {us : List Value} {vs : List V} (I : Inv X pins σ H s) (r : Vals vs us) (h : spF X.K F d vs H Q (WE W σ)) :
    codeAny (model X.prog X.w) X.A (.call (.ref (fad d)) ⟨us, []⟩) (fun r s' => match r with | .ok (.ret v) => EP X pins σ Q v s' | .ok _ => False | .error e => X.xe e s') s :=
  run_fnRA (C.fnr d) (C.room.mono (Nat.le_succ _)) C.gd (passAt C.tk σ) I r h
theorem n_fn (C : Ct P g fad fdo pso F k X W) {ps : List Str} (hg : g x = some (.fn ps)) (hG : Gl X x) (hdb : (x == ("__debug__" : Str)) = false) (ca : CA X W es ms) :
    PE X (.Call (.Name x p) es [] pos) (T X.K W fun sl h => (ms sl h).bind fun l h => F x l h) := by
  refine ⟨fun pins s σ H Q I ⟨ρ, sl, h, A, gd⟩ => ?_⟩
  obtain ⟨hm, hk, _⟩ := C.fs.fn x ps hg
  refine wpAny_Call_Name_kw (ld_glob I hG hm ?_ hdb)
  exact ca pos _ [] pins s σ H (fun vs H1 => spF X.K F x vs H1 Q (WE W σ)) Q hk I (T.stepL A gd fun ρ1 H1 h1 x v l k A1 r g1 => sp_use A1 r g1) fun us vs s1 H1 I1 rv q => wpAny_call (C.call x I1 rv q)
theorem RP.gloAt {K : PySem.W.Frag} {ρ : Tr} {H : Hp} {x : Str} {v : V} (r : RP K ρ H (.glo x) v) : v = .ref (He.ga K x) := by cases r; rfl
/-- a value that is called -/
def appM (P : Pg) (F : FF) (ms : Ms) (sl : Sl) (h : PH) (y : PV) : Rs PV := match y with
  | .glo g => if P.glb.contains g then (ms sl h).bind fun l h => F g l h else .bad
  | _ => .bad
theorem app_ok (C : Ct P g fad fdo pso F k X W) (ca : CA X W es ms) {pins : List (Addr × Obj)} {s : Shared} {σ : L2.St} {H : Hp} {Q : VK} {ρ : Tr} {sl : Sl} {h : PH} {y : PV} {v : V} {u : Value} (I : Inv X pins σ H s) (A : At X.K ρ h H sl σ) (rp : RP X.K ρ H y v) (ru : RelV v u)
    (gd : Good X.K W σ ρ H (appM P F ms sl h y) Q) : wpAny (model X.prog X.w) X.A (callWith pos u [] (backTo pos (starEach es X.env)) []) (EP X pins σ Q) X.xe s := by
  cases y <;> first | exact False.elim gd | skip
  rename_i x
  dsimp only [appM] at gd
  split at gd
  · rename_i hx
    obtain ⟨h1, h2⟩ := C.fs.gl x hx
    obtain rfl := rp.gloAt
    obtain rfl : u = .ref (He.ga X.K x) := ru
    rw [h1]
    exact ca pos _ [] pins s σ H (fun vs H1 => spF X.K F x vs H1 Q (WE W σ)) Q h2 I (T.stepL A gd fun ρ1 H1 h1 x v l k A1 r g1 => sp_use A1 r g1) fun us vs s1 H1 I1 rv q => wpAny_call (C.call x I1 rv q)
  · exact gd.elim
theorem n_appV (C : Ct P g fad fdo pso F k X W) (hf : PE X (.Name x p) (T X.K W ma)) (ca : CA X W es ms) : PE X (.Call (.Name x p) es [] pos) (T X.K W fun sl h => (ma sl h).bind fun y h => appM P F ms sl h y) := by
  refine ⟨fun pins s σ H Q I ⟨ρ, sl, h, A, gd⟩ => ?_⟩
  refine wpAny_Call_Name_kw (thn (hf.run pins s σ H _ I (T.step A gd fun ρ1 H1 h1 x v l k A1 r g1 => (⟨ρ1, sl, h1, x, A1, r, g1⟩ : ∃ ρ1 sl h1 x, At X.K ρ1 h1 H1 sl σ ∧ RP X.K ρ1 H1 x v ∧ Good X.K W σ ρ1 H1 (appM P F ms sl h1 x) Q))) fun u s1 ⟨v, H1, I1, ru, ρ1, sl, h1, y, A1, r1, g1⟩ => app_ok C ca I1 A1 r1 ru g1)
theorem n_appC (C : Ct P g fad fdo pso F k X W) {f : Expr} {bs : List Expr} {js : List Keyword} {q : Pos} (hf : PE X (.Call f bs js q) (T X.K W ma)) (ca : CA X W es ms) : PE X (.Call (.Call f bs js q) es [] pos) (T X.K W fun sl h => (ma sl h).bind fun y h => appM P F ms sl h y) := by
  refine ⟨fun pins s σ H Q I ⟨ρ, sl, h, A, gd⟩ => ?_⟩
  refine Call_ (thn (hf.run pins s σ H _ I (T.step A gd fun ρ1 H1 h1 x v l k A1 r g1 => (⟨ρ1, sl, h1, x, A1, r, g1⟩ : ∃ ρ1 sl h1 x, At X.K ρ1 h1 H1 sl σ ∧ RP X.K ρ1 H1 x v ∧ Good X.K W σ ρ1 H1 (appM P F ms sl h1 x) Q))) fun u s1 ⟨v, H1, I1, ru, ρ1, sl, h1, y, A1, r1, g1⟩ => app_ok C ca I1 A1 r1 ru g1) rfl
end
end R
end

section
set_option Elab.async false
set_option linter.all false
set_option maxRecDepth 100000
set_option maxHeartbeats 4000000
/-! Methods, instances, fields. -/
namespace R
open PySem PySem.Spec PyProof.Rows L2
section
variable {P : Pg} {g : GE} {F : FF} {fad : Str → Addr} {fdo : Str → FuncData} {pso : Str → List Str}
variable {X : Cx} {k : Nat} {x m : Str} {e o : Expr} {es : List Expr} {W : WX} {ma mo : M} {ms : Ms} {p pos apos : Pos}
theorem KPs.lookup {K : PySem.W.Frag} {ρ : Tr} {H : Hp} {f : Str} : ∀ {fs : List (Str × PV)} {gs : List (Str × V)}, KPs K ρ H fs gs → (∀ v, fs.lookup f = some v → ∃ u, gs.lookup f = some u ∧ RP K ρ H v u) ∧ (fs.lookup f = none → gs.lookup f = none)
  | _, _, .nil => ⟨fun _ e => (nomatch e), fun _ => rfl⟩
  | (a, p) :: fs, (b, q) :: gs, .cons r t => by
    obtain ⟨e1, e2⟩ := r
    have e1 : a = b := e1
    subst e1
    obtain ⟨h1, h2⟩ := KPs.lookup (f := f) t
    simp only [List.lookup_cons]
    cases hb : f == a with
    | true => exact ⟨fun v e => by simp only [Option.some.injEq] at e; subst e; exact ⟨q, rfl, e2⟩, fun e => (nomatch e)⟩
    | false => exact ⟨h1, h2⟩
theorem n_fld (C : Ct P g fad fdo pso F k X W) {f : Str} (hb : attributeBase e f X.env (eval e X.env) = eval e X.env) (he : PE X e (T X.K W ma)) :
    PE X (.Attribute e f pos) (T X.K W fun sl h => (ma sl h).bind fun x h => Rs.of (lookF P h x f) h) :=
  PE.weak (pe_fld he hb) fun σ H Q ⟨ρ, sl, h, A, gd⟩ => T.step A gd fun ρ1 H1 h1 x v l k A1 r g1 => by
    cases x <;> first | exact False.elim g1 | skip
    rename_i n
    dsimp only [lookF] at g1
    split at g1
    · rename_i D fs e1
      split at g1
      · rename_i hf
        obtain ⟨a, dx, gs, rfl, _, h2, h3⟩ := r.insAt A1.sim e1
        obtain ⟨c1, c2⟩ := C.fs.fld D f hf
        cases e2 : fs.lookup f with
        | none => rw [e2] at g1; exact g1.elim
        | some z =>
          rw [e2] at g1
          obtain ⟨u, h4, h5⟩ := (KPs.lookup h3).1 z e2
          exact ⟨a, _, dx, gs, u, rfl, h2, c1, c2, h4, g1.here A1 h5⟩
      · exact g1.elim
    · exact g1.elim
/-- what a method call is, plainly written -/
theorem meth_form {env : Env} {o : Expr} {m : Str} {apos pos : Pos} {es : List Expr} (hb : attributeBase o m env (eval o env) = eval o env) (hform : methodCallForm es.length (backTo pos (starEach es env)) [] = true) (hl : (apos.endLine == pos.line) = true) :
    eval (.Call (.Attribute o m apos) es [] pos) env = (do
      let ov ← eval o env
      standAt apos.atName
      let (f, first) ← holding [ov] (getMethod ov m (do return (← importBound o env).getD true))
      callWith pos f first (backTo pos (starEach es env)) (backToKw pos (keywordEach [] env))) := by
  have hke : backToKw pos (keywordEach [] env) = [] := rfl
  rw [arm_eval_Call, hb, hke]
  have hpos : methodCallPos true o env apos pos = pure pos := by
    unfold methodCallPos
    rw [hl]
    rfl
  unfold methodCall
  have hlen : es.length + ([] : List Keyword).length = es.length := rfl
  rw [hlen, hform, hpos]
  rfl
/-- what stands at a method's place -/
theorem methOf_at {K : PySem.W.Frag} {ρ : Tr} {H : Hp} {h : PH} {d : Str} {y : PV} {v : V} (S : Sim K ρ h H) (r : RP K ρ H y v) (e : methOf P h y m = some d) : ∃ (n : Nat) (D : Str) (a dx : Addr) (gs : List (Str × V)), y = .ref n ∧ v = .ref a ∧ P.meth D m = some d ∧ H a = some (.ins (He.ga K D) dx gs) ∧ gs.lookup m = none := by
  cases y <;> first | (cases e; done) | skip
  rename_i n
  dsimp only [methOf] at e
  split at e
  · rename_i D fs e1
    obtain ⟨a, dx, gs, rfl, _, h2, h3⟩ := r.insAt S e1
    split at e
    · cases e
    · rename_i h4
      refine ⟨n, D, a, dx, gs, rfl, rfl, e, h2, (KPs.lookup h3).2 ?_⟩
      cases e2 : fs.lookup m with
      | none => rfl
      | some z => rw [e2] at h4; exact absurd rfl h4
  · cases e
def metM (P : Pg) (F : FF) (m : Str) (ms : Ms) (sl : Sl) (h : PH) (x : PV) : Rs PV := match methOf P h x m with
    | some g => (ms sl h).bind fun l h => F g (x :: l) h
    | none => .bad
theorem n_met (C : Ct P g fad fdo pso F k X W) (hb : attributeBase o m X.env (eval o X.env) = eval o X.env) (hform : methodCallForm es.length (backTo pos (starEach es X.env)) [] = true) (hl : (apos.endLine == pos.line) = true)
    (ho : PE X o (T X.K W mo)) (ca : CA X W es ms) : PE X (.Call (.Attribute o m apos) es [] pos) (T X.K W fun sl h => (mo sl h).bind fun x h => metM P F m ms sl h x) := by
  refine ⟨fun pins s σ H Q I ⟨ρ, sl, h, A, gd⟩ => ?_⟩
  refine PySem.W.methodCall_KW (pl := do return (← importBound o X.env).getD true) (thn (ho.run pins s σ H (fun v H1 => ∃ ρ1 h1 x d, At X.K ρ1 h1 H1 sl σ ∧ RP X.K ρ1 H1 x v ∧ methOf P h1 x m = some d ∧ Good X.K W σ ρ1 H1 ((ms sl h1).bind fun l h => F d (x :: l) h) Q) I
    (T.step A gd fun ρ1 H1 h1 x v l k A1 r g1 => ?_)) fun u s1 ⟨v, H1, I1, rx, ρ1, h1, y, d, A1, r, em, g1⟩ => ?_) (meth_form hb hform hl)
  · unfold metM at g1
    cases e : methOf P h1 x m with
    | none => rw [e] at g1; exact g1.elim
    | some d =>
      rw [e] at g1
      exact ⟨ρ1, h1, x, d, A1, r, e, g1⟩
  · obtain ⟨n, D, a, dx, gs, ey, rfl, hm, ha, hgs⟩ := methOf_at A1.sim r em
    obtain rfl : u = Value.ref a := rx
    obtain ⟨c1, c2⟩ := C.fs.met D m d hm
    refine getmeth_ok I1 ha c1 c2.mt hgs ?_
    refine ca pos _ [.ref a] pins s1 σ H1 (fun vs H2 => spF X.K F d (.ref a :: vs) H2 Q (WE W σ)) Q c2.mt.kp I1 (T.stepL A1 g1 fun ρ2 H2 h2 l v l2 k2 A2 r2 g2 => sp_use A2 (.cons (r.mono l2 k2) r2) g2) fun us vs s2 H2 I2 rv q => ?_
    exact wpAny_call (C.call d (us := .ref a :: us) (vs := .ref a :: vs) I2 (.cons rfl rv) q)
/-- o.m( *e) -/
theorem n_metS (C : Ct P g fad fdo pso F k X W) (hb : attributeBase o m X.env (eval o X.env) = eval o X.env) (ho : PE X o (T X.K W mo)) (he : PE X e (T X.K W ma)) :
    PE X (.Call (.Attribute o m apos) [.Starred e p] [] pos) (T X.K W fun sl h => (mo sl h).bind fun x h => metM P F m (fun sl h => (ma sl h).bind fun x h => match seqOf h x with
    | some l => .ok l h
    | none => .bad) sl h x) := by
  refine ⟨fun pins s σ H Q I ⟨ρ, sl, h, A, gd⟩ => ?_⟩
  refine starcall_of hb (thn (ho.run pins s σ H (fun v H1 => ∃ ρ1 h1 x d, At X.K ρ1 h1 H1 sl σ ∧ RP X.K ρ1 H1 x v ∧ methOf P h1 x m = some d ∧ Good X.K W σ ρ1 H1 (((ma sl h1).bind fun x h => match seqOf h x with
    | some l => Rs.ok l h
    | none => .bad).bind fun l h => F d (x :: l) h) Q) I
    (T.step A gd fun ρ1 H1 h1 x v l k A1 r g1 => ?_)) fun u s1 ⟨v, H1, I1, rx, ρ1, h1, y, d, A1, r, em, g1⟩ => ?_)
  · unfold metM at g1
    cases e : methOf P h1 x m with
    | none => rw [e] at g1; exact g1.elim
    | some d =>
      rw [e] at g1
      exact ⟨ρ1, h1, x, d, A1, r, e, g1⟩
  · obtain ⟨n, D, a, dx, gs, ey, rfl, hm, ha, hgs⟩ := methOf_at A1.sim r em
    obtain rfl : u = Value.ref a := rx
    obtain ⟨c1, c2⟩ := C.fs.met D m d hm
    refine getbound_ok I1 ha c1 c2 hgs fun q1 s2 hq1 I2 => ?_
    have A2 : At X.K ρ1 h1 (upd H1 q1 (.met (fad d) a)) sl σ := ⟨A1.sim.grow (upd_same_of hq1), A1.rs.mono (Tr.le_refl _) (Keep.new hq1)⟩
    have nq : q1 ∉ ρ1 := fun mm => by
      obtain ⟨_, e, _⟩ := A1.sim.mem mm
      rw [hq1] at e; cases e
    refine PySem.W.ks_call (P := PySem.W.MethP X.K q1 (fad d) (.ref a)) rfl (PySem.W.keeps_M c2.fi) (PySem.W.ks_lone ?_)
    rw [Rs.bind_assoc] at g1
    refine thn (he.run pins s2 σ _ (fun v H2 => ∃ b vs, v = V.ref b ∧ (SqT X.K H2 b vs ∨ SqL X.K H2 b vs) ∧ H2 q1 = some (.met (fad d) a) ∧ spF X.K F d (.ref a :: vs) H2 Q (WE W σ)) I2 (T.step A2 (g1.later (Tr.le_refl _) (Keep.new hq1)) fun ρ3 H3 h3 z v l3 k3 A3 r3 g3 => ?_)) fun v s3 ⟨y2, H3, I3, ry, b, vs, ey2, ht, hm2, hsp⟩ => ?_
    · cases e2 : seqOf h3 z with
      | none => rw [e2] at g3; exact g3.elim
      | some xs =>
        rw [e2] at g3
        obtain ⟨q, vs, rfl, hq, hr⟩ := r3.seq A3.sim e2
        exact ⟨q, vs, rfl, hq.symm, (k3.fix q1 _ upd_same nq).2, sp_use A3 (.cons ((r.mono (Tr.le_refl _) (Keep.new hq1)).mono l3 k3) hr) g3⟩
    · subst ey2
      obtain rfl : v = Value.ref b := ry
      refine StX.star_any I3 ht fun us s4 I4 rv => ⟨met_P I4 hm2, ?_⟩
      exact wpAny_call (PySem.W.method_call (met_P I4 hm2).1 (C.call d (us := Value.ref a :: us) (vs := V.ref a :: vs) I4 (.cons rfl rv) hsp))
theorem guards_make {A : Around} {D : Addr} {us : List Value} (h : A.guards = some []) : (A.under (.builtin "type.__call__" ⟨.ref D :: us, []⟩)).guards = some [] := by
  have e : (Code.builtin "type.__call__" ⟨.ref D :: us, []⟩).guards = [] := by first | rfl | simp [Code.guards, Code.isGuard, guardIds]
  unfold Around.under
  rw [h, e]
  rfl
/-- C(..) -/
theorem n_mk (C : Ct P g fad fdo pso F k X W) {D d : Str} (hg : g D = some .cls) (hi : initName P D = some d) (hG : Gl X D) (hdb : (D == ("__debug__" : Str)) = false) (ca : CA X W es ms) :
    PE X (.Call (.Name D p) es [] pos) (T X.K W fun sl h => (ms sl h).bind fun l h => (F d (.ref h.length :: l) (h ++ [.ins D []])).bind fun v h2 => match v with
      | .non => .ok (.ref h.length) h2
      | _ => .bad) := by
  refine ⟨fun pins s σ H Q I ⟨ρ, sl, h, A, gd⟩ => ?_⟩
  have M := C.fs.mkd D d hi
  cases ed : P.fn d with
  | none =>
    refine wpAny_Call_Name_kw (ld_glob I hG (C.fs.cls D hg) ?_ hdb)
    refine ca pos _ [] pins s σ H (fun _ _ => False) Q M.kp I (T.stepL A gd fun ρ1 H1 h1 x v l k A1 r g1 => ?_) fun us vs s1 H1 I1 rv q => q.elim
    rw [C.fb d _ _ ed] at g1
    exact g1
  | some fd =>
  refine wpAny_Call_Name_kw (ld_glob I hG (C.fs.cls D hg) ?_ hdb)
  refine ca pos _ [] pins s σ H (fun vs H1 => ∀ x dx, H1 x = none → H1 dx = none → dx ≠ x → spF X.K F d (.ref x :: vs) (upd (upd H1 dx (.own x)) x (.ins (He.ga X.K D) dx [])) (fun v H2 => v = .non ∧ Q (.ref x) H2) (WE W σ)) Q M.kp I
    (T.stepL A gd fun ρ1 H1 h1 l v l1 k1 A1 r g1 => fun a dx ha hdx hne => ?_) fun us vs s1 H1 I1 rv q => ?_
  · have ha2 : (upd H1 dx (.own a)) a = none := by rw [upd_ne (Ne.symm hne)]; exact ha
    have hs1 : ∀ b o, H1 b = some o → (upd H1 dx (.own a)) b = some o := upd_same_of hdx
    have hs2 : ∀ b o, (upd H1 dx (.own a)) b = some o → (upd (upd H1 dx (.own a)) a (.ins (He.ga X.K D) dx [])) b = some o := upd_same_of ha2
    have S2 := A1.sim.grow hs1
    have S3 : Sim X.K (ρ1.add a) (h1 ++ [.ins D []]) (upd (upd H1 dx (.own a)) a (.ins (He.ga X.K D) dx [])) := S2.new hs2 ha2 ⟨dx, [], upd_same, .nil⟩
    have K3 : Keep ρ1 (ρ1.add a) H1 (upd (upd H1 dx (.own a)) a (.ins (He.ga X.K D) dx [])) := Keep.trans (Keep.new hdx) (Keep.add ha2 hs2)
    have L3 : Tr.Le ρ1 (ρ1.add a) := Tr.le_add _ _
    have idx : (ρ1.add a).l[h1.length]? = some a := by rw [← A1.sim.len]; exact Tr.get_add ρ1 a
    refine ⟨ρ1.add a, .ref h1.length :: l, h1 ++ [.ins D []], S3, .cons (.ref idx) (r.mono L3 K3), ?_⟩
    have g2 := (g1.later L3 K3).off
    cases e : F d (.ref h1.length :: l) (h1 ++ [.ins D []]) with
    | bad => rw [e] at g2; exact g2
    | er _ _ _ => rw [e] at g2; exact g2
    | ok z h2 =>
      rw [e] at g2
      intro ρ4 H4 v4 l4 k4 s4 r4
      cases z <;> first | exact False.elim g2 | skip
      cases r4
      have ix2 : ρ4.l[h1.length]? = some a := l4.get idx
      exact ⟨rfl, g2 ρ4 H4 (.ref a) l4 k4 s4 (.ref ix2)⟩
  · -- the making
    have hq := q (s1.heap.objs.size + 1) s1.heap.objs.size (I1.hok.fresh (Nat.le_succ _)) (I1.hok.fresh (Nat.le_refl _)) (Nat.ne_of_lt (Nat.lt_succ_self _))
    have I2 := Inv.made (C := He.ga X.K D) I1
    have r2 : Vals (V.ref (s1.heap.objs.size + 1) :: vs) (Value.ref (s1.heap.objs.size + 1) :: us) := .cons rfl rv
    refine wpAny_call (make_map (f := fad d) I1.kIn M.makes M.init (beq_iff_eq.mp M.fn) (codeAny_mono ((C.fnr d) _ X.stack _ _ _ _ _ (WE W σ) (C.room.make (He.ga X.K D) us []) (guards_make C.gd) (I2.env0.make (He.ga X.K D) us []) r2 hq) fun r s' hq' => ?_))
    cases r with
    | error e => exact passAt C.tk σ pins _ _ e s' I2 hq'
    | ok fl =>
      cases fl with
      | ret u =>
        obtain ⟨v, H', I3, rv, ev, q3⟩ := I2.after hq'
        subst ev
        exact ⟨rv, ⟨V.ref (s1.heap.objs.size + 1), H', I3, rfl, q3⟩⟩
      | next => exact False.elim hq'
      | brk => exact False.elim hq'
      | cont => exact False.elim hq'
end
end R
end

section
set_option Elab.async false
set_option linter.all false
set_option maxRecDepth 100000
set_option maxHeartbeats 4000000
/-! == and != that go to an own __eq__. -/
namespace R
open PySem PySem.Spec PyProof.Rows L2
open PySem.W (Frag InstAt Looks findIn isFn notFirst mroIn subIn)
theorem ne_bind (self : Value) : bindSpecial (.builtin "object.__ne__") self = pure (.builtin "object.__ne__", [self]) :=
  (Slot.of (T := "object") (name := "__ne__") (owner := "object") (n := "__ne__") (by rw [typeLookup_type, builtinLookup_eq_fast]; kernel_rfl) (by decide +kernel) (by decide +kernel) (by decide +kernel)
    (.inl (by decide +kernel)) (by rw [isSubtype_type]; kernel_rfl)).bind self
section
variable {prog : Program} {w : World} {A : Around} {E : Value → Shared → Prop} {s : Shared} {K : Frag} {x C L f : Addr} {h₀ : Heap} {m : Str → Option Value} {ox : Obj} {od : Option Obj} {b tb : Value} {name : Str} {id : String}
theorem ifBound_B {M : Model} {args : List Value} {Q : Option Value → Shared → Prop} (X : K.In s.heap) (I : InstAt s.heap x ox C od) (hs : findIn K (.ref C) name = some (some (.builtin id))) (hb : ∀ self, bindSpecial (.builtin id) self = pure (.builtin id, [self]))
    (h : wpAny M A (call (.builtin id) (.ref x :: args)) (fun v => Q (some v)) E s) : wpAny M A (callSpecialIfBound? (.ref x) name args) Q E s := by
  simp only [callSpecialIfBound?, bindSpecialIfBound?]
  refine wpAny_holding (wpAny_bind (wpAny_bind (wpAny_bind (I.type.here ((PySem.W.looks_findIn X hs).here ?_)))))
  refine wpAny_bind (wpAny_askSetting (wpAny_ite ?_))
  have fin : wpAny M A (call (.builtin id) ([.ref x] ++ args) >>= fun v => pure (some v)) Q E s := wpAny_bind (wpAny_mono h (fun v s' h' => wpAny_pure h') fun _ _ h' => h')
  rw [hb]
  split
  · exact wpAny_bind (wpAny_pure (wpAny_pure (by exact fin)))
  · exact wpAny_tryCatch (wpAny_bind (wpAny_pure (wpAny_pure (by exact fin))))
theorem objNe_K {Q : Fin → Shared → Prop} (X : K.In s.heap) (I : InstAt s.heap x ox C od) (hu : A.units < cLine) (he : findIn K (.ref C) "__eq__" = some (some (.ref f))) (hf : isFn K (.ref f) = true)
    (h : wpAny (model prog w) A (call (.ref f) [.ref x, b]) (fun v s' => ∃ r, v = .bool r ∧ Q (.done (.ret (.bool (!r)))) s') E s) : wpAny (model prog w) A (Builtin.«object.__ne__» ⟨[.ref x, b], []⟩) Q E s := by
  unfold Builtin.«object.__ne__»
  obtain ⟨hp, g, d, t, os⟩ := s
  repeat (first
    | with_reducible refine wpAny_cRoomFor hu ?_
    | (refine wpAny_bind (m := callSpecialIfBound? (.ref x) (Str.ofString "__eq__") [b])
        (PySem.W.ifBound_K X I he hf (wpAny_mono h (fun r s' hr => by
          obtain ⟨b, rfl, hq⟩ := hr
          repeat (first | exact hq | exact wpAny_pure hq | exact wpAny_truthy_bool hq | (refine wpAny_bind (m := truthy (.bool _)) (wpAny_truthy_bool ?_)) | wp_step)) fun _ _ e => e)))
    | wp_step)
theorem ne_K {Q : Value → Shared → Prop} (hu : A.units + 1 < cLine) (F : PyProof.Rows.Fr h₀ L s.heap m) (X₀ : K.In h₀) (I : InstAt s.heap x ox C od) (hb : Looks (model prog w) s.heap (typeOf b) tb) (hn : notFirst K C tb = true)
    (hs : findIn K (.ref C) "__ne__" = some (some (.builtin "object.__ne__"))) (he : findIn K (.ref C) "__eq__" = some (some (.ref f))) (hf : isFn K (.ref f) = true) (hm : mroIn K C (.type "object") = some true)
    (h : wpAny (model prog w) A.in1 (call (.ref f) [.ref x, b]) (fun v s' => ∃ r, v = .bool r ∧ Q (.bool (!r)) s') E s) : wpAny (model prog w) A (richCompare .NotEq (.ref x) b) Q E s := by
  have X := X₀.keeps F.keep
  have one : wpAny (model prog w) A (tryCompare (.ref x) "__ne__" b) (fun r s' => ∃ v, r = some v ∧ Q v s') E s := by
    unfold tryCompare
    refine wpAny_bind (ifBound_B X I hs ne_bind ?_)
    have sub : Looks (model prog w) s.heap (isInstance (.ref x) (.type "object")) true := I.type.andThen (PySem.W.looks_mroIn X hm)
    refine wpAny_call (codeAny_call_builtin (by decide +kernel) PySem.F.cmpEntry_ne (@PySem.W.check_slot (model prog w) _ _ s "object.__ne__" "object" "__ne__" (.ref x) [b] [] _ PySem.F.cmpKind_ne PySem.F.cmpSplit_ne sub (PySem.F.cmpArgs_ne _ _) ?_))
    refine objNe_K (A := A.in1) X I (by rw [show A.in1.units = A.units + 1 from rfl]; exact hu) he hf (wpAny_mono h (fun v s' hv => ?_) fun _ _ e => e)
    obtain ⟨r, rfl, hq⟩ := hv
    first | exact ⟨r, rfl, wpAny_pure ⟨_, rfl, hq⟩⟩ | exact ⟨r, rfl, wpAny_pure (wpAny_pure ⟨_, rfl, hq⟩)⟩ | exact ⟨r, rfl, ⟨_, rfl, hq⟩⟩
  unfold richCompare
  simp only [oneThing_ref]
  refine wpAny_holding (wpAny_bind (wpAny_cRoomFor (Nat.lt_of_succ_lt hu) ?_))
  rw [cmpInfo_NotEq]
  dsimp only
  refine wpAny_bind (I.type.here (wpAny_bind (hb.here ?_)))
  split
  · rename_i q
    have e : subIn K tb (.ref C) = some false := by
      rcases Bool.or_eq_true_iff.mp hn with e | e
      · rw [beq_iff_eq.mp e] at q; simp at q
      · exact beq_iff_eq.mp e
    refine wpAny_bind ((PySem.W.looks_subIn X e).here ?_)
    simp only [Bool.false_eq_true, if_false]
    refine wpAny_bind (wpAny_mono one (fun r s' z => ?_) fun _ _ e => e)
    obtain ⟨v, rfl, hq⟩ := z
    exact wpAny_pure hq
  · refine wpAny_bind (wpAny_pure ?_)
    simp only [Bool.false_eq_true, if_false]
    refine wpAny_bind (wpAny_mono one (fun r s' z => ?_) fun _ _ e => e)
    obtain ⟨v, rfl, hq⟩ := z
    exact wpAny_pure hq
end

section
variable {P : Pg} {g : GE} {F : FF} {fad : Str → Addr} {fdo : Str → FuncData} {pso : Str → List Str}
variable {X : Cx} {k : Nat} {W W' : WX}
/-- a def of the text called from a place below -/
theorem Ct.callAt (C : Ct P g fad fdo pso F k X W) (d : Str) {A : Around} (hr : Room k A) (hgd : A.guards = some []) {pins : List (Addr × Obj)} {σ : L2.St} {H : Hp} {s : Shared} {Q : VK} {us : List Value} {vs : List V} (I : Inv X pins σ H s)
    (e0 : Env0 X.prog X.w X.K X.mg X.base A X.stack s H) (r : Vals vs us) (h : spF X.K F d vs H Q (WE W σ)) : wpAny (model X.prog X.w) A (PySem.call (.ref (fad d)) us) (EP X pins σ Q) X.xe s := by
  refine wpAny_call (codeAny_mono (C.fnr d A X.stack s H us vs Q _ hr hgd e0 r h) fun r s' hq => ?_)
  cases r with
  | error e => exact passAt C.tk σ pins H s e s' I hq
  | ok fl =>
    cases fl with
    | ret u => exact I.after hq
    | next => exact False.elim hq
    | brk => exact False.elim hq
    | cont => exact False.elim hq
theorem clsOf_at {h : PH} {q : PV} {D : Str} (e : clsOf h q = some D) : ∃ m fs, q = .ref m ∧ h[m]? = some (.ins D fs) := by
  cases q <;> first | (cases e; done) | skip
  rename_i m
  simp only [clsOf] at e
  split at e
  · rename_i C fs e1
    cases e
    exact ⟨m, fs, rfl, e1⟩
  · cases e
theorem kin_of {h : PH} {n : Nat} {D : Str} {q : PV} {fs : List (Str × PV)} (e : h[n]? = some (.ins D fs)) (hk : kin h (.ref n) q = true) : ∃ m gs, q = .ref m ∧ h[m]? = some (.ins D gs) := by
  unfold kin at hk
  have e1 : clsOf h (.ref n) = some D := by simp only [clsOf, e]
  rw [e1] at hk
  split at hk
  · rename_i C' D' h1 h2
    cases h1
    obtain rfl : D = D' := by simpa using hk
    exact clsOf_at h2
  · cases hk
theorem sp_bl {σ : L2.St} {ρ : Tr} {H : Hp} {h : PH} {d : Str} {as : List PV} {vs : List V} {f : Bool → Bool} {Q : VK} (S : Sim X.K ρ h H) (r : RPs X.K ρ H as vs) {W2 : WX} {σ2 : L2.St} (gd : Good X.K W2 σ2 ρ H ((Rs.noEr (F d as h)).bind (isBl f)) Q) :
    spF X.K F d vs H (fun v H' => ∃ c, v = .bl c ∧ Q (.bl (f c)) H') (WE W σ) := by
  refine ⟨ρ, as, h, S, r, ?_⟩
  have g2 := gd
  cases e : F d as h with
  | bad => rw [e] at g2; exact g2
  | er _ _ _ => rw [e] at g2; exact False.elim g2
  | ok z h2 =>
    rw [e] at g2
    intro ρ4 H4 v4 l4 k4 s4 r4
    cases z <;> first | exact False.elim g2 | skip
    cases r4
    exact ⟨_, rfl, g2 ρ4 H4 _ l4 k4 s4 (.bl _)⟩
theorem methOf_at2 {K : PySem.W.Frag} {ρ : Tr} {H : Hp} {h : PH} {d m : Str} {y : PV} {v : V} (S : Sim K ρ h H) (r : RP K ρ H y v) (e : methOf P h y m = some d) :
    ∃ (n : Nat) (D : Str) (a dx : Addr) (gs : List (Str × V)) (fs : List (Str × PV)), y = .ref n ∧ v = .ref a ∧ P.meth D m = some d ∧ H a = some (.ins (He.ga K D) dx gs) ∧ gs.lookup m = none ∧ h[n]? = some (.ins D fs) := by
  cases y <;> first | (cases e; done) | skip
  rename_i n
  simp only [methOf] at e
  split at e
  · rename_i D fs e1
    obtain ⟨a, dx, gs, rfl, _, h2, h3⟩ := r.insAt S e1
    split at e
    · cases e
    · rename_i h4
      refine ⟨n, D, a, dx, gs, fs, rfl, rfl, e, h2, (KPs.lookup h3).2 ?_, e1⟩
      cases e2 : fs.lookup m with
      | none => rfl
      | some z => rw [e2] at h4; exact absurd rfl h4
  · cases e
theorem own_cmp (C : Ct P g fad fdo pso F k X W) {op : CmpOp} {f : Bool → Bool} (ho : op = .Eq ∧ f = id ∨ op = .NotEq ∧ f = not) {d : Str} {pins : List (Addr × Obj)} {s : Shared} {σ : L2.St} {ρ : Tr} {H : Hp} {h : PH} {p q : PV} {x y : V} {v u : Value} {Q : VK}
    (I : Inv X pins σ H s) (rx : RelV x v) (ry : RelV y u) (S : Sim X.K ρ h H) (r1 : RP X.K ρ H p x) (r2 : RP X.K ρ H q y) (e : methOf P h p strEqS = some d) (hk : kin h p q = true)
    {W2 : WX} {σ2 : L2.St} (gd : Good X.K W2 σ2 ρ H ((Rs.noEr (F d [p, q] h)).bind (isBl f)) Q) : wpAny (model X.prog X.w) X.A (compareOp op v u) (EP X pins σ Q) X.xe s := by
  obtain ⟨n, D, a, dx, gs, fs, rfl, rfl, hm, ha, hl, hD⟩ := methOf_at2 S r1 e
  obtain ⟨m, gs2, rfl, hm2⟩ := kin_of hD hk
  obtain ⟨b, dy, gs3, rfl, _, hb, _⟩ := r2.insAt S hm2
  cases rx
  cases ry
  obtain ⟨c1, bm⟩ := C.fs.met _ _ _ hm
  obtain ⟨mA, J, _⟩ := ins_get I.hok ha
  obtain ⟨mB, J', _⟩ := ins_get I.hok hb
  obtain ⟨od, J, _⟩ := J.look
  obtain ⟨od', J', _⟩ := J'.look
  obtain ⟨mm, hF⟩ := I.fr
  have rr : RPs X.K ρ H [.ref n, .ref m] [.ref a, .ref b] := .cons r1 (.cons r2 .nil)
  have rv : Vals [V.ref a, V.ref b] [Value.ref a, Value.ref b] := .cons rfl (.cons rfl .nil)
  have sp := sp_bl (W := W) (σ := σ) S rr gd
  rcases ho with ⟨rfl, rfl⟩ | ⟨rfl, rfl⟩
  · show wpAny _ _ (richCompare .Eq (.ref a) (.ref b)) _ _ _
    refine PySem.W.cmp_K (op := .Eq) (tb := .ref (He.ga X.K D)) (C.room.units0) hF I.ok.mod.kin J J'.type (by simp [PySem.W.notFirst]) bm.mt.at_ bm.mt.fn ?_
    refine wpAny_mono (C.callAt d (C.room.mono (Nat.le_succ _)) C.gd I I.env0 rv sp) (fun v s' hv => ?_) fun _ _ z => z
    obtain ⟨z, H', I', rz, c, rfl, q⟩ := hv
    cases rz
    exact ⟨.bl c, H', I', rfl, q⟩
  · show wpAny _ _ (richCompare .NotEq (.ref a) (.ref b)) _ _ _
    obtain ⟨n1, n2⟩ := C.fs.ne _ _ hm
    refine ne_K (by have := C.room.un; omega) hF I.ok.mod.kin J J'.type (by simp [PySem.W.notFirst]) n1 bm.mt.at_ bm.mt.fn n2 ?_
    refine wpAny_mono (C.callAt d C.room.in1 C.gd I I.env0.in1 rv sp) (fun v s' hv => ?_) fun _ _ z => z
    obtain ⟨z, H', I', rz, c, rfl, q⟩ := hv
    cases rz
    exact ⟨c, rfl, .bl (!c), H', I', rfl, q⟩
end
end R
end

section
set_option Elab.async false
set_option linter.all false
set_option maxRecDepth 100000
set_option maxHeartbeats 4000000
/-! isinstance; calls of built-in functions. -/
namespace R
open PySem PySem.Spec PyProof.Rows L2
section
variable {P : Pg} {g : GE} {F : FF} {fad : Str → Addr} {fdo : Str → FuncData} {pso : Str → List Str}
variable {X : Cx} {k : Nat} {x m : Str} {e o : Expr} {es : List Expr} {W : WX} {ma mo : M} {ms : Ms} {p pos apos : Pos}
def kdU (K : PySem.W.Frag) : Kd → Value
  | .ty n => .type n
  | .own C => .ref (He.ga K C)
def clU (K : PySem.W.Frag) (c : Str) : Value := match btOf c with
  | some b => .type b
  | none => .ref (He.ga K c)
def clV (K : PySem.W.Frag) (c : Str) : V := match btOf c with
  | some b => .ty b
  | none => .ref (He.ga K c)
theorem clV_u (K : PySem.W.Frag) (c : Str) : ClsV (clV K c) (clU K c) := by
  unfold clV clU
  cases btOf c with
  | some b => exact .ty b
  | none => exact .own _
theorem bt_mem {c : Str} {b : String} (h : btOf c = some b) : b ∈ (["bool", "int", "str", "tuple", "list", "dict"] : List String) := by
  unfold btOf at h
  repeat' split at h
  all_goals first | (cases h; decide) | cases h
theorem kit_bt : ∀ t ∈ (["NoneType", "bool", "int", "str", "tuple", "list", "dict"] : List String), ∀ b ∈ (["bool", "int", "str", "tuple", "list", "dict"] : List String), kitB t b = some (t == b || t == "bool" && b == "int") := by decide +kernel
theorem kd_mem {h : PH} {x : PV} {t : String} (e : kdOf h x = some (.ty t)) : t ∈ (["NoneType", "bool", "int", "str", "tuple", "list", "dict"] : List String) := by
  cases x <;> simp only [kdOf] at e <;> (repeat' split at e) <;> first | (cases e; decide) | cases e
theorem kit_one (fs : Fs P g fad fdo pso X.K X.mg) {h : PH} {x : PV} {c : Str} {b : Bool} {kd : Kd} (e1 : kdOf h x = some kd) (e2 : isiOne P h x c = some b) : PySem.W.kitOne X.K (kdU X.K kd) (clU X.K c) = some b := by
  unfold isiOne at e2
  rw [e1] at e2
  unfold clU
  cases kd with
  | ty t =>
    cases eb : btOf c with
    | some n =>
      rw [eb] at e2
      simp only [Option.some.injEq] at e2
      subst e2
      exact kit_ty (kit_bt t (kd_mem e1) n (bt_mem eb))
    | none =>
      rw [eb] at e2
      simp only at e2
      split at e2
      · rename_i hc
        cases e2
        exact fs.isT c hc t (kd_mem e1)
      · cases e2
  | own D =>
    cases eb : btOf c with
    | some n =>
      rw [eb] at e2
      simp only [Option.map_eq_some_iff] at e2
      obtain ⟨l, h1, h2⟩ := e2
      subst h2
      exact (fs.isO D l h1).1 n (bt_mem eb)
    | none =>
      rw [eb] at e2
      simp only at e2
      split at e2
      · rename_i hc
        simp only [Option.map_eq_some_iff] at e2
        obtain ⟨l, h1, h2⟩ := e2
        subst h2
        exact (fs.isO D l h1).2.1 c hc
      · cases e2
theorem isi_kd {h : PH} {x : PV} {c : Str} {b : Bool} (e2 : isiOne P h x c = some b) : ∃ kd, kdOf h x = some kd ∧ ∀ D, kd = .own D → ∃ l, P.mro.lookup D = some l := by
  unfold isiOne at e2
  cases e : kdOf h x with
  | none => rw [e] at e2; cases e2
  | some kd =>
    refine ⟨kd, rfl, fun D ed => ?_⟩
    subst ed
    rw [e] at e2
    cases eb : btOf c with
    | some n =>
      rw [eb] at e2
      simp only [Option.map_eq_some_iff] at e2
      exact ⟨_, e2.choose_spec.1⟩
    | none =>
      rw [eb] at e2
      simp only at e2
      split at e2
      · simp only [Option.map_eq_some_iff] at e2
        exact ⟨_, e2.choose_spec.1⟩
      · cases e2
theorem tyx_of (fs : Fs P g fad fdo pso X.K X.mg) {ρ : Tr} {H : Hp} {h : PH} {x : PV} {v : V} {kd : Kd} (S : Sim X.K ρ h H) (r : RP X.K ρ H x v) (e : kdOf h x = some kd) (ho : ∀ D, kd = .own D → ∃ l, P.mro.lookup D = some l) : TyX X.K H v (kdU X.K kd) := by
  cases x with
  | non => cases r; cases e; exact .base .non
  | bl b => cases r; cases e; exact .base (.bl b)
  | int b => cases r; cases e; exact .base (.int b)
  | str b => cases r; cases e; exact .base (.str b)
  | glo b => cases e
  | tup l =>
    cases e
    cases r with
    | tup h1 h2 =>
      rcases h1 with ⟨o, h1, _⟩ | ⟨o, its, n, h1, h2, _⟩
      · exact .fTuple h1
      · exact .kTuple h1 h2
  | fro l =>
    cases e
    cases r with
    | fro h1 h2 => exact .base (.frz h1)
    | frl _ _ h1 h2 => exact .base (.lst h1)
    | frk h1 h2 =>
      rcases h1 (fun _ => none) with h1 | ⟨o, its, n, h1, h2, _⟩
      · rcases h1 with h1 | ⟨_, h1⟩ <;> cases h1
      · exact .kList h1 h2
  | ref n =>
    dsimp only [kdOf] at e
    cases e1 : h[n]? with
    | none => rw [e1] at e; cases e
    | some o =>
      rw [e1] at e
      cases o with
      | lst l =>
        cases e
        obtain ⟨a, vs, rfl, _, h1, _⟩ := r.lstAt S e1
        exact .base (.lst h1)
      | dic l =>
        cases e
        obtain ⟨a, vs, rfl, _, h1, _⟩ := r.dicAt S e1
        exact .base (.dK h1)
      | ins D fl =>
        cases e
        obtain ⟨a, dx, vs, rfl, _, h1, _⟩ := r.insAt S e1
        obtain ⟨l, hl⟩ := ho D rfl
        obtain ⟨_, _, c1, c2, c3⟩ := fs.isO D l hl
        exact .base (.ins h1 c1 c2 fs.isC.1 fs.isC.2 c3)
theorem isi_any (fs : Fs P g fad fdo pso X.K X.mg) {h : PH} {x : PV} {kd : Kd} (e1 : kdOf h x = some kd) : ∀ {cs : List Str} {b : Bool}, isiAny P h x cs = some b → PySem.W.kitAny X.K (kdU X.K kd) (cs.map (clU X.K)) = some b
  | [], _, e => by cases e; rfl
  | c :: cs, b, e => by
    unfold isiAny at e
    cases e2 : isiOne P h x c with
    | none => rw [e2] at e; cases e
    | some t =>
      rw [e2] at e
      refine kitAny_cons (kit_one fs e1 e2) (fun et => ?_) (fun et => ?_)
      · subst et; exact isi_any fs e1 e
      · subst et
        simp only [Option.some.injEq] at e
        exact e.symm
theorem clU_pair (K : PySem.W.Frag) : ∀ cs : List Str, Paired ClsV (cs.map (clV K)) (cs.map (clU K))
  | [] => .nil
  | c :: cs => .cons (clV_u K c) (clU_pair K cs)
/-- names of classes, one after another -/
theorem pa_cls : ∀ {cs : List Str} {ces : List Expr}, Paired (fun c e => isStar e = false ∧ PE X e (tC (clV X.K c))) cs ces → PA X ces (fun _ H Q => Q (cs.map (clV X.K)) H)
  | _, _, .nil => pa_nil
  | _, _, .cons h t => pa_cons h.2 (pa_cls t) (star_no h.1)
def isM (P : Pg) (cs : List Str) (x : PV) (h : PH) : Rs PV := match isiAny P h x cs with
    | some k => .ok (.bl k) h
    | none => .bad
theorem n_isi1 (C : Ct P g fad fdo pso F k X W) {c : Str} {ce : Expr} (hg : g "isinstance" = some .free) (hG : Gl X "isinstance") (hn : isStar e = false) (hnc : isStar ce = false) (he : PE X e (T X.K W ma)) (hc : PE X ce (tC (clV X.K c))) :
    PE X (.Call (.Name "isinstance" p) [e, ce] [] pos) (T X.K W fun sl h => (ma sl h).bind fun x h => isM P [c] x h) := by
  have hpl : (backTo pos (starEach [ce] X.env)).any (·.1) = false := by rw [star_no hnc]; rfl
  refine PE.weak (pe_callB call_isi hG (C.fs.free _ hg) (by decide +kernel) (pa_cons he (pa_cons hc pa_nil (star_no hnc)) (star_no hn)) (by decide) (by decide) (star_no hn) hpl) fun σ H Q ⟨ρ, sl, h, A, gd⟩ => T.step A gd fun ρ1 H1 h1 x v l k A1 r g1 => ?_
  unfold isM at g1
  cases e1 : isiAny P h1 x [c] with
  | none => rw [e1] at g1; exact g1.elim
  | some b =>
    rw [e1] at g1
    have e2 : isiOne P h1 x c = some b := by
      unfold isiAny at e1
      cases e3 : isiOne P h1 x c with
      | none => rw [e3] at e1; cases e1
      | some t =>
        rw [e3] at e1
        cases t with
        | true => exact e1
        | false => exact e1
    obtain ⟨kd, k1, k2⟩ := isi_kd e2
    exact ⟨v, clV X.K c, _, _, b, rfl, clV_u _ c, tyx_of C.fs A1.sim r k1 k2, kit_one C.fs k1 e2, g1.here A1 (.bl b)⟩
theorem n_isiN (C : Ct P g fad fdo pso F k X W) {cs : List Str} {ces : List Expr} {k0 : Nat} {p2 : Pos} (hg : g "isinstance" = some .free) (hG : Gl X "isinstance") (hn : isStar e = false) (hl : cs ≠ []) (hz : cs.length ≤ 100) (he : PE X e (T X.K W ma))
    (hc : Paired (fun c e => isStar e = false ∧ PE X e (tC (clV X.K c))) cs ces) :
    PE X (.Call (.Name "isinstance" p) [e, .Tuple ces k0 p2] [] pos) (T X.K W fun sl h => (ma sl h).bind fun x h => isM P cs x h) := by
  refine PE.weak (pe_callB call_isiT hG (C.fs.free _ hg) (by decide +kernel) (pa_cons he (pa_cons (pe_tup (pa_cls hc)) pa_nil rfl) (star_no hn)) (by decide) (by decide) (star_no hn) rfl) fun σ H Q ⟨ρ, sl, h, A, gd⟩ => T.step A gd fun ρ1 H1 h1 x v l k A1 r g1 => ?_
  unfold isM at g1
  cases e1 : isiAny P h1 x cs with
  | none => rw [e1] at g1; exact g1.elim
  | some b =>
    rw [e1] at g1
    refine ⟨by rw [List.length_map, sizeLine_eq]; omega, fun q hq => ?_⟩
    obtain ⟨kd, k1, k2⟩ : ∃ kd, kdOf h1 x = some kd ∧ ∀ D, kd = .own D → ∃ l, P.mro.lookup D = some l := by
      cases cs with
      | nil => exact absurd rfl hl
      | cons c cs =>
        unfold isiAny at e1
        cases e3 : isiOne P h1 x c with
        | none => rw [e3] at e1; cases e1
        | some t => exact isi_kd e3
    have K1 : Keep ρ1 ρ1 H1 (upd H1 q (.tup (cs.map (clV X.K)))) := Keep.new hq
    have S1 := A1.sim.grow (upd_same_of (o := .tup (cs.map (clV X.K))) hq)
    exact ⟨v, q, _, _, _, b, rfl, upd_same, clU_pair X.K cs, tyx_of C.fs S1 (r.mono (Tr.le_refl _) K1) k1 k2, isi_any C.fs k1 e1, g1 ρ1 _ _ (Tr.le_refl _) K1 S1 (.bl b)⟩

/-! ### built-in functions -/
def bName : Bf → Str
  | .len => "len" | .int => "int" | .bool => "bool" | .list => "list" | .tuple => "tuple" | .all => "all" | .min => "min" | .max => "max" | .sorted => "sorted" | .repr => "repr"
theorem blt_boot (b : Bf) : bootBuiltins (bName b) = some (bltVal b) := by cases b <;> decide +kernel
theorem blt_names (b : Bf) : bName b ≠ "__name__" ∧ (bName b == ("__debug__" : Str)) = false := by cases b <;> decide
theorem bName_of {f : Str} {b : Bf} (h : bltOf f = some b) : f = bName b := by
  unfold bltOf at h
  repeat' split at h
  all_goals first | (cases h; assumption) | cases h
theorem n_blt (C : Ct P g fad fdo pso F k X W) {b : Bf} (hg : g (bName b) = some .free) (hG : Gl X (bName b)) (hn : isStar e = false) (hpl : (backTo pos (starEach es X.env)).any (·.1) = false) (ha : PA X (e :: es) (TsR X.K W ms)) :
    PE X (.Call (.Name (bName b) p) (e :: es) [] pos) (T X.K W fun sl h => (ms sl h).bind fun l h => doBlt b l h) := by
  have key : ∀ {σ : L2.St} {H : Hp} {Q : VK}, T X.K W (fun sl h => (ms sl h).bind fun l h => doBlt b l h) σ H Q → tCB (VL X.K (doBlt b)) (TsR X.K W ms) σ H Q := fun {σ H Q} ⟨ρ, sl, h, A, gd⟩ => T.stepL A gd fun ρ1 H1 h1 l v l1 k A1 r g1 => ⟨W, σ, ρ1, sl, h1, l, A1, r, g1⟩
  have hf : (∃ id, bltVal b = .builtin id) ∨ ∃ T, bltVal b = .type T := by cases b <;> first | exact .inl ⟨_, rfl⟩ | exact .inr ⟨_, rfl⟩
  have hc := blt_ok (X := X) C.calm C.gd (by have := C.room.un; omega) b
  have hv := blt_boot b
  rcases hf with ⟨id, e⟩ | ⟨ty, e⟩
  · rw [e] at hc hv
    exact PE.weak (pe_callB hc hG (C.fs.free _ hg) hv ha (blt_names b).1 (blt_names b).2 (star_no hn) hpl) fun σ H Q t => key t
  · rw [e] at hc hv
    exact PE.weak (pe_callTy hc hG (C.fs.free _ hg) hv ha (blt_names b).1 (blt_names b).2 (star_no hn) hpl) fun σ H Q t => key t
end
end R
end

section
set_option Elab.async false
set_option linter.all false
set_option maxRecDepth 100000
set_option maxHeartbeats 4000000
/-! Methods of built-in types; dict displays. -/
namespace R
open PySem PySem.Spec PyProof.Rows L2
section
variable {P : Pg} {g : GE} {F : FF} {fad : Str → Addr} {fdo : Str → FuncData} {pso : Str → List Str}
variable {X : Cx} {k : Nat} {x m : Str} {e o : Expr} {es : List Expr} {W : WX} {ma mo : M} {ms : Ms} {p pos apos : Pos}
def bmName : Bm → Str
  | .append => "append" | .pop => "pop" | .insert => "insert" | .index => "index"
theorem bmName_of {f : Str} {b : Bm} (h : bmOf f = some b) : f = bmName b := by
  unfold bmOf at h
  repeat' split at h
  all_goals first | (cases h; assumption) | cases h
def bmIdL : Bm → String
  | .append => "list.append" | .pop => "list.pop" | .insert => "list.insert" | .index => "list.index"
theorem RPs.eraseIdx {K : PySem.W.Frag} {ρ : Tr} {H : Hp} : ∀ {xs : List PV} {vs : List V} (n : Nat), RPs K ρ H xs vs → RPs K ρ H (xs.eraseIdx n) (vs.eraseIdx n)
  | _, _, _, .nil => by simp only [List.eraseIdx_nil]; exact .nil
  | _, _, 0, .cons _ b => b
  | _, _, n + 1, .cons a b => .cons a (RPs.eraseIdx n b)
theorem ro_lst {K : PySem.W.Frag} {ρ : Tr} {H : Hp} {a : Addr} {l : List PV} {vs ws : List V} (S : ∃ o, H a = some o ∧ ∀ q u, o ≠ .frz q u) (m : a ∈ ρ) (r : RPs K ρ H l ws) : RO K ρ (upd H a (.lst ws)) a (.lst l) := by
  obtain ⟨o, h1, h2⟩ := S
  exact ⟨ws, upd_same, r.mono (Tr.le_refl _) (Keep.write h1 h2 m)⟩
theorem bmL_ok (m : Bm) : MtR X (bmIdL m) (VM X.K (doBmL m)) := by
  rintro pins s σ H x xs v us Q I rx rxs ⟨W, σ', ρ, sl, h, q, ps, A, r, rs, gd⟩
  cases q <;> first | exact False.elim gd | skip
  rename_i n
  dsimp only [doBmL] at gd
  split at gd
  · rename_i l e1
    obtain ⟨a, vs, rfl, hρ, h1, h2⟩ := r.lstAt A.sim e1
    have hm : a ∈ ρ := (List.mem_of_getElem? hρ : a ∈ ρ.l)
    have hS : ∃ o, H a = some o ∧ ∀ q u, o ≠ .frz q u := ⟨_, h1, fun _ _ z => (nomatch z)⟩
    split at gd
    · obtain ⟨w, rfl, rw'⟩ := rs.one
      unfold mAppend at gd
      split at gd
      · rename_i hz
        refine mt_append pins s σ H _ _ v us Q I rx rxs ⟨a, vs, w, rfl, rfl, h1, by rw [← h2.length, ← sizeL_eq]; exact hz, ?_⟩
        exact gd.put A hρ (ro_lst (vs := vs) hS hm (h2.append (.cons rw' .nil))) .non
      · exact gd.elim
    · rename_i i
      obtain ⟨w, rfl, rw'⟩ := rs.one
      cases rw'
      unfold mPop at gd
      split at gd
      · rename_i k hk
        split at gd
        · rename_i y hy
          split at gd
          · rename_i hi
            obtain ⟨z, z1, z2⟩ := h2.get hy
            refine mt_popAt pins s σ H _ _ v us Q I rx rxs ⟨a, vs, i, k, z, rfl, rfl, h1, hi.1, hi.2, by rw [← h2.length]; exact hk, z1, ?_⟩
            exact gd.put A hρ (ro_lst (vs := vs) hS hm (h2.eraseIdx k)) (z2.mono (Tr.le_refl _) (Keep.write h1 (fun _ _ z => (nomatch z)) hm))
          · exact gd.elim
        · exact gd.elim
      · exact gd.elim
    · rename_i i y
      obtain ⟨w1, w, rfl, r1, r2⟩ := rs.two
      cases r1
      unfold mInsert at gd
      split at gd
      · rename_i hz
        refine mt_insert pins s σ H _ _ v us Q I rx rxs ⟨a, vs, i, w, rfl, rfl, h1, by rw [← h2.length, ← sizeL_eq]; exact hz.1, hz.2.1, hz.2.2, ?_⟩
        exact gd.put A hρ (ro_lst (vs := vs) hS hm (((h2.take _).append (.cons r2 .nil)).append (h2.drop _))) .non
      · exact gd.elim
    · obtain ⟨w, rfl, rw'⟩ := rs.one
      unfold mIndex at gd
      split at gd
      · rename_i hf
        split at gd
        · rename_i j hj
          obtain ⟨f1, f2, z, hz1, hz2, hz3⟩ := index_of h2 rw' hf hj
          exact mt_index pins s σ H _ _ v us Q I rx rxs ⟨a, vs, w, j, z, rfl, rfl, SqL.of h1, f1, f2, hz1, hz2, hz3, gd.here A (.int _)⟩
        · exact gd.elim
      · exact gd.elim
    · exact gd.elim
  · exact gd.elim
theorem bmT_ok : MtR X "tuple.index" (VM X.K (doBmT .index)) := by
  rintro pins s σ H x xs v us Q I rx rxs ⟨W, σ', ρ, sl, h, q, ps, A, r, rs, gd⟩
  cases q <;> first | exact False.elim gd | skip
  rename_i l
  dsimp only [doBmT] at gd
  split at gd
  · rename_i y hy
    obtain ⟨w, rfl, rw'⟩ := rs.one
    cases r with
    | @tup a _ vs h1 h2 =>
      unfold mIndex at gd
      split at gd
      · rename_i hf
        split at gd
        · rename_i j hj
          obtain ⟨f1, f2, z, hz1, hz2, hz3⟩ := index_of h2 rw' hf hj
          exact mt_tupIndex pins s σ H _ _ v us Q I rx rxs ⟨a, vs, w, j, z, rfl, rfl, h1.sq, f1, f2, hz1, hz2, hz3, gd.here A (.int _)⟩
        · exact gd.elim
      · exact gd.elim
  · exact gd.elim
theorem list_slot (m : Bm) : Slot "list" (bmName m) (bmIdL m) ∧ typeOf (.builtin (bmIdL m)) = pure (.type "method_descriptor") := by
  cases m
  · exact ⟨PySem.F.slot_list_append, PySem.F.type_list_append⟩
  · exact ⟨PySem.F.slot_list_pop, PySem.F.type_list_pop⟩
  · exact ⟨PySem.F.slot_list_insert, PySem.F.type_list_insert⟩
  · exact ⟨PySem.F.slot_list_index, PySem.F.type_list_index⟩
theorem tup_is {pins : List (Addr × Obj)} {σ : L2.St} {H : Hp} {s : Shared} {a : Addr} {vs : List V} (I : Inv X pins σ H s) (h : PTup X.K H a vs) : s.TypeIs (.ref a) "tuple" ∧ ∀ b, Value.ref a = .ref b → ∃ ob, s.heap.get? b = some ob ∧ ob.dict = none := by
  rcases h with ⟨o, h1, h2⟩ | ⟨o, its, n, h1, h2, h3, _⟩
  · obtain ⟨h3, _, _, _, o', h4, h5, _⟩ := (show ObjOk X.prog X.w H s.heap a (.frz o (.tup vs)) from I.hok a _ h1)
    refine ⟨⟨_, h4, h5⟩, fun b e => ?_⟩
    cases e
    exact ⟨o, h3, h2⟩
  · refine ⟨⟨o, I.kIn a o h1, h2⟩, fun b e => ?_⟩
    cases e
    exact ⟨o, I.kIn a o h1, h3⟩
theorem n_bm {b : Bm} (hb : attributeBase o (bmName b) X.env (eval o X.env) = eval o X.env) (hfew : methodCallForm (e :: es).length (backTo pos (starEach (e :: es) X.env)) [] = true) (hl : (apos.endLine == pos.line) = true) (hn : isStar e = false) (hpl : (backTo pos (starEach es X.env)).any (·.1) = false)
    (ho : PE X o (T X.K W mo)) (ha : PA X (e :: es) (TsR X.K W ms)) : PE X (.Call (.Attribute o (bmName b) apos) (e :: es) [] pos) (T X.K W fun sl h => (mo sl h).bind fun x h => match bmK b h x with
    | some k => (ms sl h).bind fun l h => doBm k b x l h
    | none => .bad) := by
  refine ⟨fun pins s σ H Q I ⟨ρ, sl, h, A, gd⟩ => ?_⟩
  have hfew' : ((backTo pos (starEach (e :: es) X.env)).all (fun x => !x.1) && (backToKw pos (keywordEach [] X.env)).all (fun x => x.1.isSome)
      && decide ((e :: es).length + ([] : List Keyword).length + (if ([] : List Keyword).isEmpty then 0 else 1) < 30)) = true := hfew
  refine wpAny_Call_method_late hb hfew' hl rfl (thn (ho.run pins s σ H (fun v H1 => ∃ ρ1 h1 x t, At X.K ρ1 h1 H1 sl σ ∧ RP X.K ρ1 H1 x v ∧ bmK b h1 x = some t ∧ Good X.K W σ ρ1 H1 ((ms sl h1).bind fun l h => doBm t b x l h) Q) I
    (T.step A gd fun ρ1 H1 h1 x v l k A1 r g1 => ?_)) fun v s1 ⟨x, H1, I1, rx, ρ1, h1, y, t, A1, r, em, g1⟩ => ?_)
  · cases e2 : bmK b h1 x with
    | none => simp only [e2] at g1; exact g1.elim
    | some t => simp only [e2] at g1; exact ⟨ρ1, h1, x, t, A1, r, e2, g1⟩
  · have args : ∀ (id : String) (f : PV → List PV → PH → Rs PV), MtR X id (VM X.K f) → Good X.K W σ ρ1 H1 ((ms sl h1).bind fun l h => f y l h) Q →
        wpAny (model X.prog X.w) X.A (callWith pos (.builtin id) [v] (backTo pos (starEach (e :: es) X.env)) []) (EP X pins σ Q) X.xe s1 := fun id f hm g2 => by
      have hA := ha.run pos pins s1 σ H1 (fun vs H2 => VM X.K f x vs H2 Q) I1 (T.stepL A1 g2 fun ρ2 H2 h2 l w l2 k2 A2 r2 g3 => ⟨W, σ, ρ2, sl, h2, y, l, A2, r.mono l2 k2, r2, g3⟩)
      have hs := star_no (X := X) (es := es) hn
      rw [hs] at hA ⊢
      refine Calls.callWith_builtin (by show (false || (backTo pos (starEach es X.env)).any (·.1)) = false; rw [hpl] <;> rfl) (Calls.evalArgs_plain ?_)
      exact thn hA fun us s2 ⟨vs, H2, I2, r2, q2⟩ => hm pins s2 σ H2 x vs v us Q I2 rx r2 q2
    cases y with
    | ref n =>
      dsimp only [bmK] at em
      split at em
      · rename_i l e1
        cases em
        obtain ⟨a, vs, rfl, hρ, h1', h2⟩ := r.lstAt A1.sim e1
        obtain ⟨t1, t2⟩ := tyV_is (T := "list") I1 rx (.inl ⟨rfl, vs, SqL.of h1'⟩)
        exact ⟨"list", bmIdL b, PySem.F.plainAttrs_list, (list_slot b).1, (list_slot b).2, t1, t2, args _ _ (bmL_ok b) g1⟩
      · cases em
    | tup l =>
      cases b with
      | index =>
        cases em
        cases r with
        | @tup a _ vs h1' h2 =>
          obtain rfl : v = Value.ref a := rx
          obtain ⟨t1, t2⟩ := tup_is I1 h1'
          exact ⟨"tuple", "tuple.index", PySem.F.plainAttrs_tuple, PySem.F.slot_tuple_index, PySem.F.type_tuple_index, t1, t2, args _ _ bmT_ok g1⟩
      | _ => cases em
    | _ => cases em
end
end R
end

section
set_option Elab.async false
set_option linter.all false
set_option maxRecDepth 100000
set_option maxHeartbeats 4000000
/-! enumerate over tuples. -/
namespace REn
open PySem PySem.Spec PyProof.Rows
open AutoSeq1 (wpAny_loadPart')
theorem meets_newT (l : Addr) (items : Array Value) (n : Nat) (dct : Option Addr) (sl : Array (Option Value)) :
    Meets (Builtin.«enumerate.__new__» ⟨[.type "enumerate", .ref l], []⟩) (fun _ R s => s.heap.get? l = some { cls := .type "tuple", dict := dct, data := .seq items n, slots := sl } ∧
      R (.ok (.ret (.ref (s.heap.push { cls := .type "tuple_iterator", data := .fields #[.ref l, .int 0 0] }).objs.size)))
        { s with heap := (s.heap.push { cls := .type "tuple_iterator", data := .fields #[.ref l, .int 0 0] }).push { cls := .type "enumerate", data := .fields #[.none, .bool false, .ref s.heap.objs.size, rawInt 0, .none, .none] } }) :=
  .of_wp fun prog w A R s h => by
    obtain ⟨hp, g, d, tk, os⟩ := s; obtain ⟨hl, h⟩ := h
    have hsub := sub_enumerate
    have hL : Heap.IsTuple (Shared.heap ⟨hp, g, d, tk, os⟩) l items := ⟨_, hl, rfl, n, rfl⟩
    wp_walk using wpAny_loadPart' hl
    refine wpAny_stack_any fun st => wpAny_pure ?_
    split
    · rename_i c _ _ _ _ _
      cases (c == Value.type "enumerate")
      · wp_walk using wpAny_loadPart' hl, wpAny_pyIter_tuple hL
        exact ⟨_, rfl, h⟩
      · wp_walk using wpAny_loadPart' hl, wpAny_pyIter_tuple hL
        exact ⟨_, rfl, h⟩
    · wp_walk using wpAny_loadPart' hl, wpAny_pyIter_tuple hL
      exact ⟨_, rfl, h⟩
theorem call_enumT {prog : Program} {w : World} {A : Around} {E : Value → Shared → Prop} {s : Shared} {l : Addr} {items : Array Value} {Q : Value → Shared → Prop} (hL : s.heap.IsTuple l items)
    (h : ∀ h', IsEnum h' (s.heap.objs.size + 1) s.heap.objs.size 0 .none → h'.IsTupleIter s.heap.objs.size l 0 → h'.objs.size = s.heap.objs.size + 2 →
      (∀ b o, s.heap.get? b = some o → h'.get? b = some o) → Q (.ref (s.heap.objs.size + 1)) { s with heap := h' }) :
    wpAny (model prog w) A (call (.type "enumerate") [.ref l]) Q E s := by
  obtain ⟨⟨c, dct, dt, sl⟩, hl, hc, n, hd⟩ := hL
  replace hc : c = .type "tuple" := hc
  replace hd : dt = .seq items n := hd
  subst hc hd
  refine callType_new F.called_enumerate (by decide) (F.typeCall_enumerate_1 _) (F.newCall_enumerate_1 _) (fun obj => F.args_object_init_2 obj _) F.entry_enumerate_new
    (meets_newT l items n dct sl) ⟨hl, ?_⟩
  have hz : (s.heap.push { cls := .type "tuple_iterator", data := .fields #[.ref l, .int 0 0] }).objs.size = s.heap.objs.size + 1 := Heap.size_push ..
  show _ ∧ _
  rw [hz]
  have he : IsEnum ((s.heap.push { cls := .type "tuple_iterator", data := .fields #[.ref l, .int 0 0] }).push
      { cls := .type "enumerate", data := .fields #[.none, .bool false, .ref s.heap.objs.size, rawInt 0, .none, .none] }) (s.heap.objs.size + 1) s.heap.objs.size 0 .none := by
    have := Heap.get?_push_size (s.heap.push { cls := .type "tuple_iterator", data := .fields #[.ref l, .int 0 0] })
      (o := { cls := .type "enumerate", data := .fields #[.none, .bool false, .ref s.heap.objs.size, rawInt 0, .none, .none] }) rfl
    rw [hz] at this; exact this
  refine ⟨⟨_, he, rfl⟩, h _ he ⟨_, Heap.get?_push_of_some _ (Heap.get?_push_size _ rfl), rfl, rfl⟩ (by rw [Heap.size_push, hz]) fun b o x => Heap.get?_push_of_some _ (Heap.get?_push_of_some _ x)⟩
theorem drawsT {prog : Program} {w : World} {A : Around} (hh : A.handled = none) (it l : Addr) (hne : l ≠ it) (items : Array Value) :
    Draws prog w A it [it, l] items.size (fun i v => items[i]? = some v) (fun i h => h.IsTupleIter it l i ∧ h.IsTuple l items) where
  live := fun _ _ st => let ⟨o, ho, _⟩ := st.1; ⟨o, ho⟩
  frame := fun _ _ _ st hk => ⟨let ⟨o, ho, r⟩ := st.1; ⟨o, hk it (by simp) o ho, r⟩, let ⟨o, ho, r⟩ := st.2; ⟨o, hk l (by simp) o ho, r⟩⟩
  item := fun i s Q E hi st hQ => by
    refine PySem.wpAny_nextOf_tuple_item st.1 st.2 (x := items[i]) (by simp [hi]) fun h' hit' hs' => ?_
    exact hQ _ h' s.toks (by simp [hi]) ⟨hit', st.2.extBut hs'.extBut hne⟩ hs'
  done := fun s Q E st hE => PySem.wpAny_nextOf_tuple_end hh st.1 st.2 (by simp) hE
open L2
def IteT (K : PySem.W.Frag) (a : Addr) : It :=
  ⟨fun i H => ∃ (xs : List V) (x : V), SqT K H a xs ∧ xs[i]? = some x, fun i H v H' => ∃ T x, v = .ref T ∧ H T = none ∧ H' = upd H T (.tup [.int (i : Nat), x]) ∧ ∀ xs, SqT K H a xs → xs[i]? = some x, fun i H => ∃ xs : List V, SqT K H a xs ∧ xs.length ≤ i⟩
theorem turn_enumT {P : Program} {w : World} {K : PySem.W.Frag} {elts : List Expr} {kk : Nat} {tpos : Pos} (a e it : Addr) :
    Turn P w K (.Tuple elts kk tpos) (IteT K a) [e, it] e (fun i h => (∃ old, IsEnum h e it ((i : Nat) : Int) old) ∧ h.IsTupleIter it a i ∧ e ≠ it) where
  mem := by simp
  obj := fun i h st b hb => by
    obtain ⟨⟨old, he⟩, ⟨o, ho, hc, hd⟩, _⟩ := st
    have e' : b = e ∨ b = it := by simpa using hb
    rcases e' with z | z
    · rw [z]; exact ⟨_, he, fun v q => nomatch q⟩
    · rw [z]; exact ⟨o, ho, fun v q => by rw [hd] at q; cases q⟩
  keep := fun i h h' st k => let ⟨⟨old, he⟩, hi, hne⟩ := st; ⟨⟨old, k e (by simp) _ he⟩, let ⟨o, ho, r⟩ := hi; ⟨o, k it (by simp) o ho, r⟩, hne⟩
  item := by
    intro X hP hw hK hc i pins s σ H E I hf st hg
    subst hP hw hK
    obtain ⟨⟨old, he⟩, hit, hne⟩ := st
    obtain ⟨xs, x, hq, hx⟩ := hg
    obtain ⟨its, rv, p, hz⟩ := I.tuple hq
    obtain ⟨u, hu, ru⟩ := rv.get hx
    have hel : e < s.heap.objs.size := Heap.lt_size he
    have hil : it < s.heap.objs.size := by obtain ⟨_, q, _⟩ := hit; exact Heap.lt_size q
    have hai : a ≠ it := fun z => by
      obtain ⟨o1, q1, c1, _⟩ := hit
      obtain ⟨o2, q2, c2, _⟩ := p
      rw [z, q1] at q2; cases q2; rw [c1] at c2; exact absurd c2 (by decide)
    have hae : e ≠ a := fun z => by
      obtain ⟨o2, q2, c2, _⟩ := p
      rw [← z, he] at q2; cases q2; exact absurd (show Value.type "enumerate" = Value.type "tuple" from c2) (by decide)
    have hil2 : i < its.toArray.size := by
      have := (List.getElem?_eq_some_iff.mp hu).1
      simpa using this
    refine wpAny_pyNext_enum_itemD (drawsT (A := X.A.in1) (I.ok.hd hc) it a hai its.toArray) he ⟨hit, p⟩ hil2 hne (by simp; exact ⟨hne, hae⟩) fun x' h' tk hx' ho hit' hT hsz hk => ?_
    have ex : x' = u := by
      have h1 : its[i]? = some x' := by simpa using hx'
      rw [hu] at h1
      exact (Option.some.inj h1).symm
    subst ex
    refine ⟨_, rfl, wpAny_letOwnedTupleGo_enum (s := { s with heap := h', toks := tk + 1 }) ho fun h'' he' sb => ?_⟩
    have hT2 : h''.get? s.heap.objs.size = some { cls := .type "tuple", data := .seq #[.int i tk, x'] } := (sb.2 _ (Nat.ne_of_gt hel)).trans hT
    have new : ObjOk X.prog X.w (upd H s.heap.objs.size (.tup [.int (i : Nat), x])) h'' s.heap.objs.size (.tup [.int (i : Nat), x]) :=
      ⟨by show 2 ≤ sizeLine; decide, [.int i tk, x'], .cons ⟨_, rfl⟩ (.cons ru .nil), ⟨_, hT2, rfl, _, rfl⟩⟩
    have I1 : Inv X pins σ (upd H s.heap.objs.size (.tup [.int (i : Nat), x])) { s with heap := h'', toks := tk + 1 } :=
      I.turnedNew (ch := [e, it]) (fun b ob hb q => (sb.2 b (fun z => hb (by simp [z]))).trans (hk b ob (fun z => hb (by simp [z])) (fun z => hb (by simp [z])) q)) hf (Nat.le_refl _) new
    refine ⟨.ref s.heap.objs.size, _, I1, rfl, ⟨_, x, rfl, I.hok.fresh (Nat.le_refl _), rfl, fun ys hy => by rw [I.tuple_inj hy hq]; exact hx⟩, ⟨⟨x', ?_⟩, ?_, hne⟩, fun b hb => ?_⟩
    · have e1 : ((i + 1 : Nat) : Int) = (i : Int) + 1 := by omega
      rw [e1]; exact he'
    · obtain ⟨o, q, r⟩ := hit'.1
      exact ⟨o, (sb.2 it (Ne.symm hne)).trans q, r⟩
    · have hb' : b < s.heap.objs.size := by
        have e' : b = e ∨ b = it := by simpa using hb
        rcases e' with z | z
        · rw [z]; exact hel
        · rw [z]; exact hil
      rw [upd_ne (Nat.ne_of_lt hb')]
      exact (hf b hb).1
  done := by
    intro X hP hw hK hc i pins s σ H E I hf st hg
    subst hP hw hK
    obtain ⟨⟨old, he⟩, hit, hne⟩ := st
    obtain ⟨xs, hq, hx⟩ := hg
    obtain ⟨its, rv, p, hz⟩ := I.tuple hq
    obtain ⟨f0, f1, f2, f3, f4, f5⟩ := hf it (by simp)
    have hl := rv.length
    have hT : s.TypeIs (.ref e) "enumerate" := ⟨_, he, rfl⟩
    unfold pyNext
    refine wpAny_bind (wpAny_attempt (wpAny_callSpecial?_slot (name := Str.ofString "__next__") hT F.slot_enumerate_next
      (wpAny_call_entry F.slot_enumerate_next hT F.entry_enumerate_next ?_ (F.args_enumerate_next_1 _))))
    show wpAny _ _ (field (.ref e) 2 >>= _) _ _ _
    refine wpAny_bind (wpAny_field he rfl (x := .ref it) rfl ?_)
    refine wpAny_bind (PySem.wpAny_nextOf_tuple_end (A := X.A.in1) (I.ok.hd hc) hit p (by simp; omega) fun h' x he' hx' => ?_)
    obtain ⟨o, ho, hc⟩ := hx'
    refine wpAny_bind (wpAny_isInstance (T := "StopIteration") (b := true) ⟨o, ho, hc⟩ isSubtype_stop ?_)
    exact wpAny_pure ⟨rfl, I.turned (t' := s.toks) (fun b o hb q => he' b o hb q) f0 f1 f3 f4 f5⟩
  self := fun A i s Q E st h => let ⟨⟨_, he⟩, _⟩ := st; wpAny_pyIter_enum he h
end REn
end

section
set_option Elab.async false
set_option linter.all false
set_option maxRecDepth 100000
set_option maxHeartbeats 4000000
/-! Targets. -/
namespace R
open PySem PySem.Spec PyProof.Rows L2
/-- what an item of a loop is -/
inductive ItR (K : PySem.W.Frag) (ρ : Tr) (H : Hp) : Itm → V → Prop
  | one {p : PV} {v : V} : RP K ρ H p v → ItR K ρ H (.one p) v
  | two {p q : PV} {a : Addr} {v w : V} : SqT K H a [v, w] → RP K ρ H p v → RP K ρ H q w → ItR K ρ H (.two p q) (.ref a)
def setAllV (is : List Nat) (l : List V) (σ : L2.St) : L2.St := (is.zip l).foldl (fun s p => s.set p.1 (some p.2)) σ
theorem RS.setAll {K : PySem.W.Frag} {ρ : Tr} {H : Hp} : ∀ (is : List Nat) {l : List PV} {vs : List V} {sl : Sl} {σ : L2.St}, RS K ρ H sl σ → RPs K ρ H l vs → RS K ρ H (R.setAll is l sl) (setAllV is vs σ)
  | [], _, _, _, _, r, _ => r
  | i :: is, _, _, _, _, r, .nil => r
  | i :: is, _, _, _, _, r, .cons a b => RS.setAll is (r.set i a) b
theorem wipe_set {i : Nat} {o : Option V} : ∀ {own : List Nat} {σ : L2.St}, i ∈ own → L2.wipe (σ.set i o) own = L2.wipe σ own
  | j :: own, σ, h => by
    show (L2.wipe (σ.set i o) own).set j none = (L2.wipe σ own).set j none
    by_cases hm : i ∈ own
    · rw [wipe_set hm]
    · have e : i = j := by
        rcases List.mem_cons.mp h with e | h
        · exact e
        · exact absurd h hm
      subst e
      have key : ∀ (vs : List Nat) (τ : L2.St), i ∉ vs → L2.wipe (τ.set i o) vs = (L2.wipe τ vs).set i o := by
        intro vs
        induction vs with
        | nil => intro τ _; rfl
        | cons v vs ih =>
          intro τ hn
          have hv : i ≠ v := fun z => hn (z ▸ List.mem_cons_self)
          show (L2.wipe (τ.set i o) vs).set v none = ((L2.wipe τ vs).set v none).set i o
          rw [ih τ fun z => hn (List.mem_cons_of_mem _ z), List.set_comm _ _ hv]
      rw [key own σ hm, List.set_set]
theorem setAllV_wipe (own : List Nat) : ∀ (is : List Nat) (vs : List V) (σ : L2.St), (∀ i ∈ is, i ∈ own) → L2.wipe (setAllV is vs σ) own = L2.wipe σ own
  | [], _, _, _ => rfl
  | i :: is, [], _, _ => rfl
  | i :: is, v :: vs, σ, h => by
    show L2.wipe (setAllV is vs (σ.set i (some v))) own = _
    rw [setAllV_wipe own is vs _ fun j hj => h j (List.mem_cons_of_mem _ hj)]
    exact wipe_set (h i List.mem_cons_self)
/-- a target's reading -/
def gR (K : PySem.W.Frag) (tg : Tg) : TG := fun v σ H Q => ∃ ρ h sl it s2, At K ρ h H sl σ ∧ ItR K ρ H it v ∧ asg tg it h sl = some s2 ∧ ∀ vs, RS K ρ H s2 (setAllV tg.ix vs σ) → Q (setAllV tg.ix vs σ) H
/-- names that may be stored to -/
structure Tok0 (X : Cx) (sc0 : Scope) : Prop where
  ok : ∀ x, isLoc sc0 x = true → Loc X.env.scope x ∧ (X.fn x = true ∨ X.env.scope.names.lookup x = some .local)
section
variable {X : Cx} {sc0 : Scope}
theorem ixOf_get {N : List Str} {x : Str} {i : Nat} (h : ixOf N x = some i) : N[i]? = some x := by
  unfold ixOf at h
  rw [List.findIdx?_eq_some_iff_getElem] at h
  obtain ⟨h1, h2, _⟩ := h
  rw [List.getElem?_eq_getElem h1]
  exact congrArg some (by simpa using h2)
theorem pg1 (hN : X.N.Nodup) (t : Tok0 X sc0) {e : Expr} {i : Nat} (h : cTg1 X.N sc0 e = some i) : PG X e (gName i) ∧ ∃ x p, e = .Name x p := by
  unfold cTg1 at h
  split at h
  · split at h
    · rename_i x p hx
      rw [Bool.and_eq_true] at hx
      obtain ⟨h1, h2⟩ := t.ok x hx.1
      exact ⟨pg_name hN (ixOf_get h) h1 h2, x, p, rfl⟩
    · cases h
  · cases h
theorem each_name (es : List Expr) (h : ∀ e ∈ es, ∃ x p, e = Expr.Name x p) : (assignEach es X.env).length = es.length ∧ (assignEach es X.env).findIdx? (·.1) = none := by
  induction es with
  | nil => exact ⟨rfl, rfl⟩
  | cons e es ih =>
    obtain ⟨x, p, rfl⟩ := h e List.mem_cons_self
    obtain ⟨h1, h2⟩ := ih fun e he => h e (List.mem_cons_of_mem _ he)
    have e1 : assignEach (.Name x p :: es) X.env = (false, assign (.Name x p) X.env) :: assignEach es X.env := rfl
    rw [e1]
    refine ⟨by rw [List.length_cons, List.length_cons, h1], ?_⟩
    rw [List.findIdx?_cons]
    simp [h2]
/-- several names, one after another -/
def gAll (is : List Nat) : TGs := fun vs σ H Q => vs.length = is.length ∧ Q (setAllV is vs σ) H
theorem pgs_all (hN : X.N.Nodup) (t : Tok0 X sc0) : ∀ {es : List Expr} {is : List Nat}, es.mapM (cTg1 X.N sc0) = some is → PGs X es (gAll is) ∧ (∀ e ∈ es, ∃ x p, e = Expr.Name x p) ∧ is.length = es.length
  | [], is, h => by
    simp only [List.mapM_nil, Option.pure_def, Option.some.injEq] at h
    subst h
    refine ⟨⟨fun pins s σ H vs us Q I r q => pgs_nil.run pins s σ H vs us Q I r ⟨List.length_eq_zero_iff.mp q.1, ?_⟩⟩, (fun e he => absurd he (by simp)), rfl⟩
    exact q.2
  | e :: es, is, h => by
    rw [List.mapM_cons] at h
    simp only [Option.pure_def, Option.bind_eq_bind, Option.bind_eq_some_iff, Option.some.injEq] at h
    obtain ⟨i, e1, is', e2, rfl⟩ := h
    obtain ⟨h1, h2⟩ := pg1 hN t e1
    obtain ⟨h3, h4, h5⟩ := pgs_all hN t e2
    obtain ⟨x, p, ex⟩ := h2
    refine ⟨⟨fun pins s σ H vs us Q I r q => (pgs_cons h1 h3 (by rw [ex]; rfl)).run pins s σ H vs us Q I r ?_⟩, fun e' he => ?_, by simp [h5]⟩
    · obtain ⟨q1, q2⟩ := q
      cases vs with
      | nil => cases q1
      | cons v vs => exact ⟨v, vs, rfl, ⟨Nat.succ.inj q1, q2⟩⟩
    · rcases List.mem_cons.mp he with z | he
      · rw [z]; exact ⟨x, p, ex⟩
      · exact h4 e' he
theorem pg_ok (hc : X.calm = true) (hN : X.N.Nodup) (t : Tok0 X sc0) {e : Expr} {tg : Tg} (h : cTg X.N sc0 e = some tg) : PG X e (gR X.K tg) := by
  unfold cTg at h
  split at h
  · rename_i es k pos
    rw [Option.map_eq_some_iff] at h
    obtain ⟨is, e1, rfl⟩ := h
    obtain ⟨h1, h2, h3⟩ := pgs_all hN t e1
    obtain ⟨h4, h5⟩ := each_name (X := X) es h2
    refine ⟨fun pins s σ H v u Q I r q => ?_⟩
    obtain ⟨ρ, h, sl, it, s2, A, ri, ea, q⟩ := q
    have tup : ∀ a xs (l : List PV), v = .ref a → SqT X.K H a xs → RPs X.K ρ H l xs → l.length = is.length → s2 = R.setAll is l sl → wpAny (model X.prog X.w) X.A (assign (.Tuple es k pos) X.env u) (fun _ s' => ∃ σ' H', Inv X pins σ' H' s' ∧ Q σ' H') X.xe s := fun a xs l ev ha hr hl e2 =>
      (pg_tup (n := is.length) hc h1 (by rw [h4, h3]) h5).run pins s σ H v u Q I r ⟨a, xs, ev, ha, by rw [← hr.length, hl], by rw [← hr.length, hl], q xs (by rw [e2]; exact RS.setAll is A.rs hr)⟩
    cases ri with
    | @one p v' rp =>
      simp only [asg, asgV] at ea
      split at ea
      · rename_i l
        split at ea
        · rename_i hl
          simp only [Option.some.injEq] at ea
          cases rp with
          | @tup a _ vs h1' h2' => exact tup a vs l rfl h1'.sq h2' hl ea.symm
        · cases ea
      · rename_i n
        split at ea
        · rename_i l el
          split at ea
          · rename_i hl
            simp only [Option.some.injEq] at ea
            obtain ⟨a, vs, rfl, _, h1', h2'⟩ := rp.lstAt A.sim el
            exact (pg_lst (n := is.length) hc h1 (by rw [h4, h3]) h5).run pins s σ H _ u Q I r ⟨a, vs, rfl, SqL.of h1', by rw [← h2'.length, hl], by rw [← h2'.length, hl], q vs (by rw [← ea]; exact RS.setAll is A.rs h2')⟩
          · cases ea
        · cases ea
      · cases ea
    | @two p1 p2 a v1 v2 hs r1 r2 =>
      simp only [asg] at ea
      split at ea
      · rename_i i j hij
        simp only [Tg.many.injEq] at hij
        simp only [Option.some.injEq] at ea
        refine tup a [v1, v2] [p1, p2] rfl hs (.cons r1 (.cons r2 .nil)) (by rw [hij] <;> rfl) ?_
        rw [hij, ← ea]
        rfl
      · cases ea
  · rename_i hne
    rw [Option.map_eq_some_iff] at h
    obtain ⟨i, e1, rfl⟩ := h
    obtain ⟨h1, _⟩ := pg1 hN t e1
    refine ⟨fun pins s σ H v u Q I r ⟨ρ, h, sl, it, s2, A, ri, ea, q⟩ => h1.run pins s σ H v u Q I r ?_⟩
    cases ri with
    | @one p v' rp =>
      simp only [asg, asgV, Option.some.injEq] at ea
      exact q [v] (by rw [← ea]; exact A.rs.set i rp)
    | two _ _ _ =>
      simp only [asg] at ea
      cases ea
end
end R
end

section
set_option Elab.async false
set_option linter.all false
set_option maxRecDepth 100000
set_option maxHeartbeats 4000000
/-! What loops walk. -/
namespace R
open PySem PySem.Spec PyProof.Rows L2
/-- J goes as the source does -/
def Fol (K : PySem.W.Frag) (ρ0 : Tr) (H0 : Hp) (src : Src) (J : It) : Prop := ∀ ρ H h, MV ρ0 ρ H0 H → Sim K ρ h H → ∀ i : Nat,
  (∀ it, src.get h i = some it → J.go i H ∧ ∀ x H', J.yld i H x H' → (∀ b o, H b = some o → H' b = some o) ∧ ItR K ρ H' it x) ∧ ∀ n, src.len h = some n → n ≤ i → J.stop i H
def GoodI (K : PySem.W.Frag) (W : WX) (σ : L2.St) (ρ : Tr) (H : Hp) (r : Rs Src) (R : It → Hp → Prop) : Prop := match r with
  | .ok src h' => ∀ ρ' H', Tr.Le ρ ρ' → Keep ρ ρ' H H' → Sim K ρ' h' H' → ∀ J, Fol K ρ' H' src J → R J H'
  | .er C as h' => ∀ ρ' H' d gs, Tr.Le ρ ρ' → Keep ρ ρ' H H' → Sim K ρ' h' H' → H' d = some (.xd gs) → KPs K ρ' H' as gs → W (.ref (He.ga K C)) (some d) σ H'
  | .bad => False
def TiR (K : PySem.W.Frag) (W : WX) (m : Sl → PH → Rs Src) : TI := fun σ H R => ∃ ρ sl h, At K ρ h H sl σ ∧ GoodI K W σ ρ H (m sl h) R
theorem GoodI.later {K : PySem.W.Frag} {W : WX} {σ : L2.St} {ρ ρ' : Tr} {H H' : Hp} {r : Rs Src} {R : It → Hp → Prop} (l : Tr.Le ρ ρ') (k : Keep ρ ρ' H H') (g : GoodI K W σ ρ H r R) : GoodI K W σ ρ' H' r R := by
  cases r with
  | ok x h => exact fun ρ2 H2 a b c d => g ρ2 H2 (l.trans a) (k.trans b) c d
  | er C as h => exact fun ρ2 H2 d gs a b c e f => g ρ2 H2 d gs (l.trans a) (k.trans b) c e f
  | bad => exact g
theorem TiR.step {K : PySem.W.Frag} {W : WX} {σ : L2.St} {ρ : Tr} {H : Hp} {sl : Sl} {h : PH} {m : Sl → PH → Rs PV} {k : PV → PH → Rs Src} {R : It → Hp → Prop} {Q' : VK} (p : At K ρ h H sl σ) (g : GoodI K W σ ρ H ((m sl h).bind k) R)
    (n : ∀ ρ' H' h' x v, Tr.Le ρ ρ' → Keep ρ ρ' H H' → At K ρ' h' H' sl σ → RP K ρ' H' x v → GoodI K W σ ρ' H' (k x h') R → Q' v H') : T K W m σ H Q' := by
  refine ⟨ρ, sl, h, p, ?_⟩
  cases e : m sl h with
  | ok x h' =>
    rw [e] at g
    exact fun ρ' H' v l kp s r => n ρ' H' h' x v l kp (p.later l kp s) r (GoodI.later l kp g)
  | er C as h' => rw [e] at g; exact g
  | bad => rw [e] at g; exact g
theorem TiR.stepL {K : PySem.W.Frag} {W : WX} {σ : L2.St} {ρ : Tr} {H : Hp} {sl : Sl} {h : PH} {m : Sl → PH → Rs (List PV)} {k : List PV → PH → Rs Src} {R : It → Hp → Prop} {Q' : List V → Hp → Prop} (p : At K ρ h H sl σ) (g : GoodI K W σ ρ H ((m sl h).bind k) R)
    (n : ∀ ρ' H' h' x v, Tr.Le ρ ρ' → Keep ρ ρ' H H' → At K ρ' h' H' sl σ → RPs K ρ' H' x v → GoodI K W σ ρ' H' (k x h') R → Q' v H') : TsR K W m σ H Q' := by
  refine ⟨ρ, sl, h, p, ?_⟩
  cases e : m sl h with
  | ok x h' =>
    rw [e] at g
    exact fun ρ' H' v l kp s r => n ρ' H' h' x v l kp (p.later l kp s) r (GoodI.later l kp g)
  | er C as h' => rw [e] at g; exact g
  | bad => rw [e] at g; exact g
theorem GoodI.here {K : PySem.W.Frag} {W : WX} {σ : L2.St} {ρ : Tr} {H : Hp} {sl : Sl} {h : PH} {src : Src} {R : It → Hp → Prop} {J : It} (p : At K ρ h H sl σ) (g : GoodI K W σ ρ H (.ok src h) R) (f : Fol K ρ H src J) : R J H := g ρ H (Tr.le_refl ρ) (Keep.refl ρ H) p.sim J f
section
variable {X : Cx} {W : WX} {tg : Expr}
/-- a list (a tuple) at a that the source tells -/
def BS (S : Hp → Addr → List V → Prop) (K : PySem.W.Frag) (ρ0 : Tr) (H0 : Hp) (s : Src) (a : Addr) : Prop := ∀ ρ H h, MV ρ0 ρ H0 H → Sim K ρ h H → ∀ i : Nat,
  (∀ p, s.at h i = some p → ∃ xs v, S H a xs ∧ xs[i]? = some v ∧ RP K ρ H p v) ∧ ∀ n, s.len h = some n → n ≤ i → ∃ xs, S H a xs ∧ xs.length ≤ i
/-- s is plain -/
def Src.plain : Src → Bool
  | .its _ => true
  | .ref _ => true
  | _ => false
theorem bs_fix {S : Hp → Addr → List V → Prop} {K : PySem.W.Frag} {ρ : Tr} {H : Hp} {a : Addr} {l : List PV} {vs : List V} (st : ∀ ρ' H', MV ρ ρ' H H' → S H' a vs) (r : RPs K ρ H l vs) : BS S K ρ H (.its l) a := by
  intro ρ1 H1 h k1 S1 i
  refine ⟨fun p e => ?_, fun n e hn => ?_⟩
  · simp only [Src.at] at e
    obtain ⟨v, h1, h2⟩ := r.get e
    exact ⟨vs, v, st _ _ k1, h1, h2.move k1⟩
  · simp only [Src.len, Option.some.injEq] at e
    exact ⟨vs, st _ _ k1, by rw [← r.length, e]; exact hn⟩
theorem bs_ref {K : PySem.W.Frag} {ρ : Tr} {H : Hp} {a : Addr} {n : Nat} (e0 : ρ.l[n]? = some a) : BS (SqL K) K ρ H (.ref n) a := by
  intro ρ1 H1 h k1 S i
  have e1 := k1.get e0
  refine ⟨fun p e => ?_, fun m e hm => ?_⟩
  · simp only [Src.at] at e
    split at e
    · rename_i l el
      obtain ⟨vs, h1, h2⟩ := S.obj n _ a el e1
      obtain ⟨v, h3, h4⟩ := h2.get e
      exact ⟨vs, v, SqL.of h1, h3, h4⟩
    · cases e
  · simp only [Src.len] at e
    split at e
    · rename_i l el
      simp only [Option.some.injEq] at e
      obtain ⟨vs, h1, h2⟩ := S.obj n _ a el e1
      exact ⟨vs, SqL.of h1, by rw [← h2.length, e]; exact hm⟩
    · cases e
theorem Src.get_plain {s : Src} (hp : s.plain = true) (h : PH) (i : Nat) : s.get h i = (s.at h i).map .one := by
  cases s <;> first | rfl | cases hp
theorem fol_L {K : PySem.W.Frag} {ρ : Tr} {H : Hp} {s : Src} {a : Addr} (hp : s.plain = true) (b : BS (SqL K) K ρ H s a) : Fol K ρ H s (Itl K a) := fun ρ1 H1 h k1 S i => by
  refine ⟨fun it e => ?_, (b ρ1 H1 h k1 S i).2⟩
  rw [Src.get_plain hp, Option.map_eq_some_iff] at e
  obtain ⟨p, e, rfl⟩ := e
  obtain ⟨xs, v, h1, h2, h3⟩ := (b ρ1 H1 h k1 S i).1 p e
  refine ⟨⟨xs, v, h1, h2⟩, fun x H' ⟨q1, q2⟩ => ?_⟩
  subst q1
  have := q2 xs h1
  rw [h2] at this
  cases this
  exact ⟨fun _ _ z => z, .one h3⟩
theorem fol_T {K : PySem.W.Frag} {ρ : Tr} {H : Hp} {s : Src} {a : Addr} (hp : s.plain = true) (b : BS (SqT K) K ρ H s a) : Fol K ρ H s (Itt K a) := fun ρ1 H1 h k1 S i => by
  refine ⟨fun it e => ?_, (b ρ1 H1 h k1 S i).2⟩
  rw [Src.get_plain hp, Option.map_eq_some_iff] at e
  obtain ⟨p, e, rfl⟩ := e
  obtain ⟨xs, v, h1, h2, h3⟩ := (b ρ1 H1 h k1 S i).1 p e
  refine ⟨⟨xs, v, h1, h2⟩, fun x H' ⟨q1, q2⟩ => ?_⟩
  subst q1
  have := q2 xs h1
  rw [h2] at this
  cases this
  exact ⟨fun _ _ z => z, .one h3⟩
theorem fol_eL {K : PySem.W.Frag} {ρ : Tr} {H : Hp} {s : Src} {a : Addr} (b : BS (SqL K) K ρ H s a) : Fol K ρ H (.enum s) (Ite K a) := fun ρ1 H1 h k1 S i => by
  refine ⟨fun it e => ?_, (b ρ1 H1 h k1 S i).2⟩
  simp only [Src.get, Option.map_eq_some_iff] at e
  obtain ⟨p, e, rfl⟩ := e
  obtain ⟨xs, v, h1, h2, h3⟩ := (b ρ1 H1 h k1 S i).1 p e
  refine ⟨⟨xs, v, h1, h2⟩, fun x H' ⟨T, y, q1, q2, q3, q4⟩ => ?_⟩
  subst q1 q3
  have := q4 xs h1
  rw [h2] at this
  cases this
  exact ⟨upd_same_of q2, .two (SqT.of upd_same) (.int _) (h3.mono (Tr.le_refl _) (Keep.new q2))⟩
theorem fol_eT {K : PySem.W.Frag} {ρ : Tr} {H : Hp} {s : Src} {a : Addr} (b : BS (SqT K) K ρ H s a) : Fol K ρ H (.enum s) (REn.IteT K a) := fun ρ1 H1 h k1 S i => by
  refine ⟨fun it e => ?_, (b ρ1 H1 h k1 S i).2⟩
  simp only [Src.get, Option.map_eq_some_iff] at e
  obtain ⟨p, e, rfl⟩ := e
  obtain ⟨xs, v, h1, h2, h3⟩ := (b ρ1 H1 h k1 S i).1 p e
  refine ⟨⟨xs, v, h1, h2⟩, fun x H' ⟨T, y, q1, q2, q3, q4⟩ => ?_⟩
  subst q1 q3
  have := q4 xs h1
  rw [h2] at this
  cases this
  exact ⟨upd_same_of q2, .two (SqT.of upd_same) (.int _) (h3.mono (Tr.le_refl _) (Keep.new q2))⟩
/-- a source's length tells whether it has an item -/
theorem at_len {s : Src} {h : PH} {i n : Nat} (hp : s.plain = true) (e : s.len h = some n) (hn : i < n) : ∃ p, s.at h i = some p := by
  cases s with
  | its l => simp only [Src.len, Option.some.injEq] at e; subst e; exact ⟨_, List.getElem?_eq_getElem hn⟩
  | ref m =>
    simp only [Src.len] at e
    simp only [Src.at]
    split at e
    · rename_i l el
      simp only [Option.some.injEq] at e
      subst e
      exact ⟨_, List.getElem?_eq_getElem hn⟩
    · cases e
  | _ => cases hp
theorem fol_z {S : Hp → Addr → List V → Prop} {K : PySem.W.Frag} {ρ : Tr} {H : Hp} {s t : Src} {a b : Addr} {J : It} (hs : s.plain = true) (ht : t.plain = true) (b1 : BS S K ρ H s a) (b2 : BS S K ρ H t b)
    (go : ∀ i H, J.go i H ↔ ∃ (xs ys : List V) (x y : V), S H a xs ∧ S H b ys ∧ xs[i]? = some x ∧ ys[i]? = some y)
    (yl : ∀ i H v H', J.yld i H v H' → ∃ T x y, v = .ref T ∧ H T = none ∧ H' = upd H T (.tup [x, y]) ∧ (∀ xs, S H a xs → xs[i]? = some x) ∧ ∀ ys, S H b ys → ys[i]? = some y)
    (stp : ∀ i H, (∃ xs ys : List V, S H a xs ∧ S H b ys ∧ (xs.length ≤ i ∨ ys.length ≤ i)) → J.stop i H) : Fol K ρ H (.zip s t) J := fun ρ1 H1 h k1 S1 i => by
  refine ⟨fun it e => ?_, fun n e hn => stp i H1 ?_⟩
  · simp only [Src.get, Option.bind_eq_some_iff, Option.map_eq_some_iff] at e
    obtain ⟨p, e1, q, e2, rfl⟩ := e
    obtain ⟨xs, v, h1, h2, h3⟩ := (b1 ρ1 H1 h k1 S1 i).1 p e1
    obtain ⟨ys, w, h4, h5, h6⟩ := (b2 ρ1 H1 h k1 S1 i).1 q e2
    refine ⟨(go i H1).mpr ⟨xs, ys, v, w, h1, h4, h2, h5⟩, fun x H' hy => ?_⟩
    obtain ⟨T, x', y', q1, q2, q3, q4, q5⟩ := yl i H1 x H' hy
    subst q1 q3
    have z1 := q4 xs h1
    rw [h2] at z1
    cases z1
    have z2 := q5 ys h4
    rw [h5] at z2
    cases z2
    exact ⟨upd_same_of q2, .two (SqT.of upd_same) (h3.mono (Tr.le_refl _) (Keep.new q2)) (h6.mono (Tr.le_refl _) (Keep.new q2))⟩
  · simp only [Src.len, Option.bind_eq_some_iff, Option.map_eq_some_iff] at e
    obtain ⟨n1, e1, n2, e2, rfl⟩ := e
    have pick : ∀ {u : Src} {c : Addr} {m : Nat}, u.plain = true → BS S K ρ H u c → u.len h = some m → ∃ xs, S H1 c xs ∧ (m ≤ i → xs.length ≤ i) := fun {u c m} hu bu eu => by
      by_cases hm : m ≤ i
      · obtain ⟨xs, x1, x2⟩ := (bu ρ1 H1 h k1 S1 i).2 m eu hm
        exact ⟨xs, x1, fun _ => x2⟩
      · obtain ⟨p, ep⟩ := at_len hu eu (Nat.lt_of_not_le hm)
        obtain ⟨xs, v, x1, _, _⟩ := (bu ρ1 H1 h k1 S1 i).1 p ep
        exact ⟨xs, x1, fun z => absurd z hm⟩
    obtain ⟨xs, x1, x2⟩ := pick hs b1 e1
    obtain ⟨ys, y1, y2⟩ := pick ht b2 e2
    refine ⟨xs, ys, x1, y1, ?_⟩
    rcases Nat.le_total n1 n2 with z | z
    · exact .inl (x2 (by rw [Nat.min_eq_left z] at hn; exact hn))
    · exact .inr (y2 (by rw [Nat.min_eq_right z] at hn; exact hn))
theorem fol_str {K : PySem.W.Frag} {ρ : Tr} {H : Hp} {x : Str} : Fol K ρ H (.its (x.cps.toList.map fun c => .str ⟨#[c]⟩)) (Its x) := by
  intro ρ1 H1 h k1 S i
  refine ⟨fun it e => ?_, fun m e hm => ?_⟩
  · simp only [Src.get, Src.at, Option.map_eq_some_iff] at e
    obtain ⟨p, e, rfl⟩ := e
    rw [List.getElem?_map, Option.map_eq_some_iff] at e
    obtain ⟨c, e, rfl⟩ := e
    have e' : x.cps[i]? = some c := by simpa using e
    have hi : i < x.cps.size := (Array.getElem?_eq_some_iff.mp e').1
    refine ⟨hi, fun v H' ⟨q1, c', q2, q3⟩ => ?_⟩
    subst q1
    rw [e'] at q2
    cases q2
    subst q3
    exact ⟨fun _ _ z => z, .one (.str _)⟩
  · simp only [Src.len, List.length_map, Array.length_toList, Option.some.injEq] at e
    show x.cps.size ≤ i
    omega
theorem fol_rng {K : PySem.W.Frag} {ρ : Tr} {H : Hp} {lo : Int} {n : Nat} : Fol K ρ H (.its (rngL lo n)) (Itr lo n) := by
  intro ρ1 H1 h k1 S i
  refine ⟨fun it e => ?_, fun m e hm => ?_⟩
  · simp only [Src.get, Src.at, Option.map_eq_some_iff, rngL] at e
    obtain ⟨p, e, rfl⟩ := e
    rw [List.getElem?_map, Option.map_eq_some_iff] at e
    obtain ⟨j, e, rfl⟩ := e
    obtain ⟨hi, ej⟩ := List.getElem?_eq_some_iff.mp e
    rw [List.getElem_range] at ej
    rw [List.length_range] at hi
    subst ej
    refine ⟨hi, fun v H' ⟨q1, q2⟩ => ?_⟩
    subst q1 q2
    exact ⟨fun _ _ z => z, .one (.int _)⟩
  · simp only [Src.len, rngL, List.length_map, List.length_range, Option.some.injEq] at e
    show n ≤ i
    omega

/-! ### the iterators -/
/-- what a value is for a loop: a list, a tuple, a text -/
theorem src_of {K : PySem.W.Frag} {ρ : Tr} {H : Hp} {h : PH} {x : PV} {v : V} {s : Src} (S : Sim K ρ h H) (r : RP K ρ H x v) (e : srcOf h x = some s) :
    (∃ a vs, v = .ref a ∧ isTupP x = false ∧ (∀ z, x ≠ .str z) ∧ s.plain = true ∧ SqL K H a vs ∧ BS (SqL K) K ρ H s a) ∨ (∃ a vs, v = .ref a ∧ isTupP x = true ∧ s.plain = true ∧ SqT K H a vs ∧ BS (SqT K) K ρ H s a) ∨ ∃ z, x = .str z ∧ v = .str z ∧ s = .its (z.cps.toList.map fun c => .str ⟨#[c]⟩) := by
  cases x with
  | tup l =>
    simp only [srcOf, Option.some.injEq] at e
    subst e
    cases r with
    | tup h1 h2 => exact .inr (.inl ⟨_, _, rfl, rfl, rfl, h1.sq, bs_fix (fun _ _ k => (h1.move k).sq) h2⟩)
  | fro l =>
    simp only [srcOf, Option.some.injEq] at e
    subst e
    cases r with
    | fro h1 h2 => exact .inl ⟨_, _, rfl, rfl, fun z => (fun q => nomatch q), rfl, .inl (.inr ⟨_, h1⟩), bs_fix (fun _ _ k => .inl (.inr ⟨_, k.fz _ _ _ h1⟩)) h2⟩
    | frl n nb h1 h2 => exact .inl ⟨_, _, rfl, rfl, fun z => (fun q => nomatch q), rfl, SqL.of h1, bs_fix (fun _ _ k => SqL.of (k.fx _ _ h1 n nb).2.2) h2⟩
    | frk h1 h2 => exact .inl ⟨_, _, rfl, rfl, fun z => (fun q => nomatch q), rfl, h1 H, bs_fix (fun _ H' _ => h1 H') h2⟩
  | str z =>
    simp only [srcOf, Option.some.injEq] at e
    subst e
    cases r
    exact .inr (.inr ⟨z, rfl, rfl, rfl⟩)
  | ref n =>
    simp only [srcOf] at e
    split at e
    · rename_i l el
      simp only [Option.some.injEq] at e
      subst e
      obtain ⟨a, vs, rfl, h0, h1, h2⟩ := r.lstAt S el
      exact .inl ⟨a, vs, rfl, rfl, fun z => (fun q => nomatch q), rfl, SqL.of h1, bs_ref h0⟩
    · cases e
  | _ => cases e
variable {P : Pg} {g : GE} {F : FF} {fad : Str → Addr} {fdo : Str → FuncData} {pso : Str → List Str} {k : Nat} {e : Expr} {es : List Expr} {ma : M} {ms : Ms} {p pos tpos : Pos} {elts : List Expr} {kk : Nat}
/-- an iterator over a value -/
theorem it_val {pins : List (Addr × Obj)} {σ : L2.St} {H : Hp} {s1 : Shared} {R : It → Hp → Prop} {ρ : Tr} {sl : Sl} {h : PH} {x : PV} {v : V} {u : Value} (I1 : Inv X pins σ H s1) (ru : RelV v u) (A : At X.K ρ h H sl σ) (r : RP X.K ρ H x v)
    (gd : GoodI X.K W σ ρ H (Rs.of (srcOf h x) h) R) : wpAny (model X.prog X.w) X.A (pyIter u) (PIE X pins σ tg R) X.xe s1 := by
  cases e : srcOf h x with
  | none => rw [e] at gd; exact gd.elim
  | some s =>
    rw [e] at gd
    rcases src_of A.sim r e with ⟨a, vs, rfl, _, _, h1, h2, h3⟩ | ⟨a, vs, rfl, _, h1, h2, h3⟩ | ⟨z, rfl, rfl, rfl⟩
    · obtain rfl : u = Value.ref a := ru
      have q : R (Itl X.K a) H := gd.here A (fol_L h1 h3)
      obtain ⟨its, rv, p, hz⟩ := I1.list h2
      refine wpAny_pyIter_list p.isList ?_
      refine ⟨s1.heap.objs.size, [s1.heap.objs.size], _, _, H, rfl, I1.kept (t' := s1.toks) fun b o e => Heap.get?_push_of_some _ e, turn_list a _, ⟨_, Heap.get?_push_size _ rfl, rfl, rfl⟩, fun b hb => ?_, q⟩
      have e : b = s1.heap.objs.size := by simpa using hb
      subst e
      exact I1.fpOk (Nat.le_refl _) (I1.hok.fresh (Nat.le_refl _))
    · obtain rfl : u = Value.ref a := ru
      have q : R (Itt X.K a) H := gd.here A (fol_T h1 h3)
      obtain ⟨its, rv, p, hz⟩ := I1.tuple h2
      refine wpAny_pyIter_tuple (show s1.heap.IsTuple a its.toArray from p) ?_
      refine ⟨s1.heap.objs.size, [s1.heap.objs.size], _, _, H, rfl, I1.kept (t' := s1.toks) fun b o e => Heap.get?_push_of_some _ e, turn_tuple a _, ⟨_, Heap.get?_push_size _ rfl, rfl, rfl⟩, fun b hb => ?_, q⟩
      have e : b = s1.heap.objs.size := by simpa using hb
      subst e
      exact I1.fpOk (Nat.le_refl _) (I1.hok.fresh (Nat.le_refl _))
    · obtain ⟨t, rfl⟩ := ru
      have q : R (Its z) H := gd.here A fol_str
      cases ha : z.cps.all (· < 128)
      · exact wpAny_pyIter_wide ha (pi_one (tk := s1.toks) I1 _ (turn_str _ z t "str_iterator" (.inr rfl)) ⟨_, Heap.get?_push_size _ rfl, rfl, rfl⟩ q)
      · exact wpAny_pyIter_ascii ha (pi_one (tk := s1.toks) I1 _ (turn_str _ z t "str_ascii_iterator" (.inl rfl)) ⟨_, Heap.get?_push_size _ rfl, rfl, rfl⟩ q)
theorem i_e (he : PE X e (T X.K W ma)) : PI X tg e (TiR X.K W fun sl h => (ma sl h).bind fun x h => Rs.of (srcOf h x) h) := by
  refine ⟨fun pins s σ H R I ⟨ρ, sl, h, A, gd⟩ => ?_⟩
  refine thn (he.run pins s σ H (fun v H1 => ∃ ρ1 h1 x, At X.K ρ1 h1 H1 sl σ ∧ RP X.K ρ1 H1 x v ∧ GoodI X.K W σ ρ1 H1 (Rs.of (srcOf h1 x) h1) R) I (TiR.step A gd fun ρ1 H1 h1 x v l k A1 r g1 => ⟨ρ1, h1, x, A1, r, g1⟩)) fun u s1 ⟨v, H1, I1, ru, ρ1, h1, x, A1, r1, g1⟩ => it_val I1 ru A1 r1 g1
theorem rng_ok {x y : PV} {s : Src} (e : srcR x y = some s) : ∃ i j : Int, x = .int i ∧ y = .int j ∧ (-(2 ^ 62) ≤ i ∧ i < 2 ^ 62 ∧ -(2 ^ 62) ≤ j ∧ j < 2 ^ 62) ∧ s = .its (rngL i (j - i).toNat) := by
  cases x <;> cases y <;> first | (cases e; done) | skip
  rename_i i j
  simp only [srcR] at e
  split at e
  · rename_i hb
    exact ⟨i, j, rfl, rfl, hb, (Option.some.inj e).symm⟩
  · cases e
theorem i_rng1 (C : Ct P g fad fdo pso F k X W) (hg : g "range" = some .free) (hG : Gl X "range") (hn : isStar e = false) (he : PE X e (T X.K W ma)) :
    PI X tg (.Call (.Name "range" p) [e] [] pos) (TiR X.K W fun sl h => (ma sl h).bind fun x h => Rs.of (srcR (.int 0) x) h) := by
  refine ⟨fun pins s σ H R I ⟨ρ, sl, h, A, gd⟩ => (pi_range1 (tg := tg) hG (C.fs.free _ hg) (pa_cons he pa_nil (star_no hn)) (star_no hn)).run pins s σ H R I ?_⟩
  refine TiR.step A gd fun ρ1 H1 h1 x v l k A1 r g1 => ?_
  cases e : srcR (.int 0) x with
  | none => rw [e] at g1; exact g1.elim
  | some s =>
    rw [e] at g1
    obtain ⟨i, j, e1, rfl, hb, rfl⟩ := rng_ok e
    cases e1
    cases r
    exact ⟨j, rfl, hb.2.2.1, hb.2.2.2, by
      have q : R (Itr 0 (j - 0).toNat) H1 := g1.here A1 fol_rng
      simpa using q⟩
theorem i_rng2 {a b : Expr} {mb : M} (C : Ct P g fad fdo pso F k X W) (hg : g "range" = some .free) (hG : Gl X "range") (hn : isStar a = false) (hnb : isStar b = false) (ha : PE X a (T X.K W ma)) (hb : PE X b (T X.K W mb)) :
    PI X tg (.Call (.Name "range" p) [a, b] [] pos) (TiR X.K W fun sl h => (ma sl h).bind fun x h => (mb sl h).bind fun y h => Rs.of (srcR x y) h) := by
  have s1 : starEach [b] X.env = [(false, eval b X.env)] := star_no hnb
  have s2 : starEach [a, b] X.env = [(false, eval a X.env), (false, eval b X.env)] := by rw [star_no hn, s1]
  refine ⟨fun pins s σ H R I ⟨ρ, sl, h, A, gd⟩ => (pi_range2 (tg := tg) hG (C.fs.free _ hg) (pa_cons ha (pa_cons hb pa_nil (star_no hnb)) (star_no hn)) s2 s1).run pins s σ H R I ?_⟩
  refine TiR.step A gd fun ρ1 H1 h1 x v l k A1 r g1 => TiR.step A1 g1 fun ρ2 H2 h2 y u l2 k2 A2 r2 g2 => ?_
  cases e : srcR x y with
  | none => rw [e] at g2; exact g2.elim
  | some s =>
    rw [e] at g2
    obtain ⟨i, j, rfl, rfl, hb, rfl⟩ := rng_ok e
    cases r
    cases r2
    exact ⟨i, j, rfl, hb, g2.here A2 fol_rng⟩
theorem i_enum (C : Ct P g fad fdo pso F k X W) (hg : g "enumerate" = some .free) (hG : Gl X "enumerate") (hn : isStar e = false) (he : PE X e (T X.K W ma)) :
    PI X (.Tuple elts kk tpos) (.Call (.Name "enumerate" p) [e] [] pos) (TiR X.K W fun sl h => (ma sl h).bind fun x h => Rs.of (srcN h x) h) := by
  have s1 : starEach [e] X.env = [(false, eval e X.env)] := star_no hn
  refine ⟨fun pins s σ H R I ⟨ρ, sl, h, A, gd⟩ => ?_⟩
  refine Call_ (ld_blt I hG (C.fs.free _ hg) boot_enumerate (PyProof.Rows.callWith_type1 (thn ((pa_cons he pa_nil (star_no hn)).run pos pins s σ H (fun vs H1 => ∃ ρ1 h1 x v, vs = [v] ∧ At X.K ρ1 h1 H1 sl σ ∧ RP X.K ρ1 H1 x v ∧ GoodI X.K W σ ρ1 H1 (Rs.of (srcN h1 x) h1) R) I
    (TiR.step A gd fun ρ1 H1 h1 x v l k A1 r g1 => ⟨ρ1, h1, x, v, rfl, A1, r, g1⟩)) fun us s1 ⟨vs, H1, I1, rv, ρ1, h1, x, v, ev, A1, r, g1⟩ => ?_) s1 rfl))
  subst ev
  obtain ⟨u, rfl, ru⟩ := vals1 rv
  have sub : ∀ s, srcOf h1 x = some s → (∀ z, x ≠ .str z) → GoodI X.K W σ ρ1 H1 (.ok (.enum s) h1) R → wpAny (model X.prog X.w) X.A (call (.type "enumerate") [u]) (fun v s1 => wpAny (model X.prog X.w) X.A (pyIter v) (PIE X pins σ (.Tuple elts kk tpos) R) X.xe s1) X.xe s1 := fun s es hx g2 => by
    rcases src_of A1.sim r es with ⟨a, xs, rfl, _, _, p1, p2, p3⟩ | ⟨a, xs, rfl, _, p1, p2, p3⟩ | ⟨z, rfl, _, _⟩
    · obtain rfl : u = Value.ref a := ru
      have q : R (Ite X.K a) H1 := g2.here A1 (fol_eL p3)
      obtain ⟨its, rv, p', hz⟩ := I1.list p2
      refine call_enumerate_list p'.isList fun h' he hit hsz hk => wpAny_pyIter_enum he ?_
      have I2 : Inv X pins σ H1 { s1 with heap := h' } := I1.kept (t' := s1.toks) hk
      refine ⟨s1.heap.objs.size + 1, [s1.heap.objs.size + 1, s1.heap.objs.size], _, _, H1, rfl, I2, turn_enum a (s1.heap.objs.size + 1) s1.heap.objs.size, ⟨⟨.none, he⟩, hit, Nat.succ_ne_self _⟩, fun b hb => ?_, q⟩
      have e' : b = s1.heap.objs.size + 1 ∨ b = s1.heap.objs.size := by simpa using hb
      have hle : s1.heap.objs.size ≤ b := by
        rcases e' with z | z
        · rw [z]; exact Nat.le_add_right _ _
        · rw [z]; exact Nat.le_refl _
      exact I1.fpOk hle (I1.hok.fresh hle)
    · obtain rfl : u = Value.ref a := ru
      have q : R (REn.IteT X.K a) H1 := g2.here A1 (fol_eT p3)
      obtain ⟨its, rv, p', hz⟩ := I1.tuple p2
      refine REn.call_enumT (show s1.heap.IsTuple a its.toArray from p') fun h' he hit hsz hk => wpAny_pyIter_enum he ?_
      have I2 : Inv X pins σ H1 { s1 with heap := h' } := I1.kept (t' := s1.toks) hk
      refine ⟨s1.heap.objs.size + 1, [s1.heap.objs.size + 1, s1.heap.objs.size], _, _, H1, rfl, I2, REn.turn_enumT a (s1.heap.objs.size + 1) s1.heap.objs.size, ⟨⟨.none, he⟩, hit, Nat.succ_ne_self _⟩, fun b hb => ?_, q⟩
      have e' : b = s1.heap.objs.size + 1 ∨ b = s1.heap.objs.size := by simpa using hb
      have hle : s1.heap.objs.size ≤ b := by
        rcases e' with z | z
        · rw [z]; exact Nat.le_add_right _ _
        · rw [z]; exact Nat.le_refl _
      exact I1.fpOk hle (I1.hok.fresh hle)
    · exact absurd rfl (hx z)
  have hx : ∀ z, x ≠ .str z := fun z q => by
    subst q
    exact g1.elim
  have e1 : srcN h1 x = (srcOf h1 x).map .enum := by cases x <;> first | rfl | exact absurd rfl (hx _)
  rw [e1] at g1
  cases es : srcOf h1 x with
  | none => rw [es] at g1; exact g1.elim
  | some s =>
    rw [es] at g1
    exact sub s es hx g1
theorem i_zip {a b : Expr} {mb : M} (C : Ct P g fad fdo pso F k X W) (hg : g "zip" = some .free) (hG : Gl X "zip") (hn : isStar a = false) (hnb : isStar b = false) (ha : PE X a (T X.K W ma)) (hb : PE X b (T X.K W mb)) :
    PI X (.Tuple elts kk tpos) (.Call (.Name "zip" p) [a, b] [] pos) (TiR X.K W fun sl h => (ma sl h).bind fun x h => (mb sl h).bind fun y h => Rs.of (srcZ h x y) h) := by
  have hpl : (backTo pos (starEach [b] X.env)).any (·.1) = false := by rw [star_no hnb]; rfl
  refine ⟨fun pins s σ H R I ⟨ρ, sl, h, A, gd⟩ => (RZ.pi_zipA (elts := elts) (kk := kk) (tpos := tpos) hG (C.fs.free _ hg) (pa_cons ha (pa_cons hb pa_nil (star_no hnb)) (star_no hn)) (star_no hn) hpl).run pins s σ H R I ?_⟩
  refine TiR.step A gd fun ρ1 H1 h1 x v l k A1 r g1 => TiR.step A1 g1 fun ρ2 H2 h2 y u l2 k2 A2 r2 g2 => ?_
  have r := r.mono l2 k2
  have fin : (∀ z, x ≠ .str z) → (∀ z, y ≠ .str z) → ∀ s t, srcOf h2 x = some s → srcOf h2 y = some t → isTupP x = isTupP y → GoodI X.K W σ ρ2 H2 (.ok (.zip s t) h2) R →
      ∃ a b xs ys, [v, u] = [V.ref a, V.ref b] ∧ ((SqL X.K H2 a xs ∧ SqL X.K H2 b ys ∧ R (Itz X.K a b) H2) ∨ (SqT X.K H2 a xs ∧ SqT X.K H2 b ys ∧ R (RZ.ItzT X.K a b) H2)) := fun hx hy s t e1 e2 et g3 => by
    rcases src_of A2.sim r e1 with ⟨a, xs, rfl, t1, _, p1, p2, p3⟩ | ⟨a, xs, rfl, t1, p1, p2, p3⟩ | ⟨z, rfl, _, _⟩
    · rcases src_of A2.sim r2 e2 with ⟨b, ys, rfl, t2, _, q1, q2, q3⟩ | ⟨b, ys, rfl, t2, q1, q2, q3⟩ | ⟨z, rfl, _, _⟩
      · exact ⟨a, b, xs, ys, rfl, .inl ⟨p2, q2, g3.here A2 (fol_z p1 q1 p3 q3 (fun i H => Iff.rfl) (fun i H v H' z => z) fun i H z => z)⟩⟩
      · rw [t1, t2] at et; cases et
      · exact absurd rfl (hy z)
    · rcases src_of A2.sim r2 e2 with ⟨b, ys, rfl, t2, _, q1, q2, q3⟩ | ⟨b, ys, rfl, t2, q1, q2, q3⟩ | ⟨z, rfl, _, _⟩
      · rw [t1, t2] at et; cases et
      · exact ⟨a, b, xs, ys, rfl, .inr ⟨p2, q2, g3.here A2 (fol_z p1 q1 p3 q3 (fun i H => Iff.rfl) (fun i H v H' z => z) fun i H z => z)⟩⟩
      · exact absurd rfl (hy z)
    · exact absurd rfl (hx z)
  have open1 : (∀ z, x ≠ .str z) → (∀ z, y ≠ .str z) → srcZ h2 x y = if isTupP x = isTupP y then (srcOf h2 x).bind fun s => (srcOf h2 y).map fun t => .zip s t else none := fun hx hy => by
    cases x <;> first | exact absurd rfl (hx _) | (cases y <;> first | rfl | exact absurd rfl (hy _))
  have hx : ∀ z, x ≠ .str z := fun z q => by
    subst q
    cases y <;> exact g2.elim
  have hy : ∀ z, y ≠ .str z := fun z q => by
    subst q
    cases x <;> exact g2.elim
  rw [open1 hx hy] at g2
  split at g2
  · rename_i et
    cases e1 : srcOf h2 x with
    | none => rw [e1] at g2; exact g2.elim
    | some s =>
      rw [e1] at g2
      cases e2 : srcOf h2 y with
      | none => rw [e2] at g2; exact g2.elim
      | some t =>
        rw [e2] at g2
        exact fin hx hy s t e1 e2 et g2
  · exact g2.elim
end
end R
end

section
set_option Elab.async false
set_option linter.all false
set_option maxRecDepth 100000
set_option maxHeartbeats 4000000
/-! list(range(..)). -/
namespace R
open PySem PySem.Spec PyProof.Rows L2
section
variable {P : Pg} {g : GE} {fad : Str → Addr} {fdo : Str → FuncData} {pso : Str → List Str} {F : FF} {k : Nat} {X : Cx} {W : WX}
variable {a b : Expr} {ma mb : M} {p p2 q pos : Pos}
theorem rps_rng {K : PySem.W.Frag} {ρ : Tr} {H : Hp} (i j : Int) : RPs K ρ H (rngL i (j - i).toNat) (rgV i j) := by
  unfold rngL rgV
  generalize (List.range (j - i).toNat) = l
  induction l with
  | nil => exact .nil
  | cons n l ih => exact .cons (.int _) ih
theorem n_lrg (C : Ct P g fad fdo pso F k X W) (hg : g "range" = some .free) (hG : Gl X "range") (hl : g "list" = some .free) (hL : Gl X "list") (hn : isStar a = false) (hnb : isStar b = false) (ha : PE X a (T X.K W ma)) (hb : PE X b (T X.K W mb)) :
    PE X (.Call (.Name "list" p) [.Call (.Name "range" p2) [a, b] [] q] [] pos) (T X.K W fun sl h => (ma sl h).bind fun x h => (mb sl h).bind fun y h => lrgM x y h) := by
  have s1 : starEach [b] X.env = (false, eval b X.env) :: starEach [] X.env := star_no hnb
  have s2 : starEach [a, b] X.env = (false, eval a X.env) :: starEach [b] X.env := star_no hn
  have hp : (backTo q (starEach [b] X.env)).any (·.1) = false := by rw [s1]; rfl
  refine ⟨fun pins s σ H Q I ⟨ρ, sl, h, A, gd⟩ => (pe_listRg C.calm hL (C.fs.free _ hl) (prg_2 hG (C.fs.free _ hg) ha hb s2 s1 hp)).run pins s σ H Q I ?_⟩
  refine T.step A gd fun ρ1 H1 h1 x v l k A1 r g1 => T.step A1 g1 fun ρ2 H2 h2 y u l2 k2 A2 r2 g2 => ?_
  unfold lrgM at g2
  cases e : srcR x y with
  | none => rw [e] at g2; exact g2.elim
  | some s =>
    rw [e] at g2
    obtain ⟨i, j, rfl, rfl, hb, rfl⟩ := rng_ok e
    cases r
    cases r2
    simp only at g2
    split at g2
    · rename_i hz
      have hz' : (j - i).toNat ≤ 2 ^ 24 := by simpa [rngL, sizeL] using hz
      exact ⟨i, j, rfl, rfl, ⟨hb.1, hb.2.1, hb.2.2.1, hb.2.2.2, hz'⟩, g2.newL A2 (rps_rng i j)⟩
    · exact g2.elim
end
end R
end

section
set_option Elab.async false
set_option linter.all false
set_option maxRecDepth 100000
set_option maxHeartbeats 4000000
/-! len(set(..)) of texts. -/
namespace R
open PySem PySem.Spec PyProof.Rows L2
theorem unl_le (xs : List Str) : ∀ i, unl xs i ≤ i
  | 0 => Nat.le_refl _
  | i + 1 => by
    have := unl_le xs i
    unfold unl
    split <;> omega
theorem take_any (xs : List Str) {i : Nat} (hi : i < xs.length) (k : Str) : (xs.take (i + 1)).any (· == k) = ((xs.take i).any (· == k) || decide (k = xs.getD i Str.empty)) := by
  rw [List.take_add_one, List.any_append, List.getElem?_eq_getElem hi, List.getD_eq_getElem?_getD, List.getElem?_eq_getElem hi]
  simp only [Option.toList_some, List.any_cons, List.any_nil, Bool.or_false, Option.getD_some]
  congr 1
  rw [Bool.eq_iff_iff, beq_iff_eq, decide_eq_true_eq]
  exact eq_comm
section
variable {pr : Program} {wo : World} {B : Around} {Rr : Result → Shared → Prop} {it : Addr} {fp wr : List Addr} {G : Array GenState → Array GenState → Prop} {N : Nat} {Pi : Nat → Value → Prop} {Si : Nat → Shared → Prop}
/-- the rows of a list of texts go into a set, one by one -/
theorem set_rows (Wk : WalksS pr wo B.in1 it fp wr G N Pi Si) (c : Addr) (hc : c ∉ fp) (xs : List Str) (hx : xs.length = N) (hN : N + 1 < scanBound) (hv : ∀ i v, Pi i v → ∃ t, v = .str (xs.getD i Str.empty) t) :
    ∀ (m i : Nat) (z : Shared), N - i = m → i ≤ N → Si i z → z.heap.SetOf (PySem.strKind pr wo) c (fun k => (xs.take i).any (· == k)) (unl xs i) →
      (∀ z', Moved (c :: wr) G z z' → z'.heap.SetOf (PySem.strKind pr wo) c (fun k => (xs.take N).any (· == k)) (unl xs N) → Rr (.ok (.ret .none)) z') →
      codeAny (model pr wo) B (.builtin "set.update.loop" ⟨[.ref c, .ref it], []⟩) Rr z
  | 0, i, z, hm, hi, hs, hS, fin => by
    obtain rfl : i = N := by omega
    refine codeAny_builtin PyProof.Rows.F.entry_set_update_loop ?_
    rw [Around.under_plainId PyProof.Rows.F.plain_set_update_loop _]
    show wpAny _ B.in1 (pyNext (.ref it) >>= _) _ _ z
    refine wpAny_bind (Wk.done z _ _ hs fun z' mv => ?_)
    show wpAny _ B.in1 (ret Value.none) _ _ z'
    obtain ⟨o, es, ep, t, ho, more⟩ := hS
    exact wpAny_pure (fin z' (mv.mono fun b hb => List.mem_cons_of_mem _ hb) ⟨o, es, ep, t, mv.heap c _ (fun h => hc (Wk.sub _ h)) ho, more⟩)
  | m + 1, i, z, hm, hi, hs, hS, fin => by
    have lt : i < N := by omega
    refine codeAny_builtin PyProof.Rows.F.entry_set_update_loop ?_
    rw [Around.under_plainId PyProof.Rows.F.plain_set_update_loop _]
    show wpAny _ B.in1 (pyNext (.ref it) >>= _) _ _ z
    refine wpAny_bind (Wk.item i z _ _ lt hs fun v z' hP hs' mv => ?_)
    obtain ⟨t, rfl⟩ := hv i v hP
    have hS' : z'.heap.SetOf (PySem.strKind pr wo) c (fun k => (xs.take i).any (· == k)) (unl xs i) := by
      obtain ⟨o, es, ep, t, ho, more⟩ := hS
      exact ⟨o, es, ep, t, mv.heap c _ (fun h => hc (Wk.sub _ h)) ho, more⟩
    show wpAny _ B.in1 (holding [Value.str (xs.getD i Str.empty) t] (setAdd c (.str (xs.getD i Str.empty) t)) >>= _) _ _ z'
    refine wpAny_bind (wpAny_holding ?_)
    unfold setAdd
    refine wpAny_holding (wpAny_bind ((PySem.strKind pr wo).pyHash (k := xs.getD i Str.empty) (strKind_is _ _ _ _) ?_))
    have small : unl xs i + 1 < scanBound := by have := unl_le xs i; omega
    refine wpAny_setAddHashed_of (knd := PySem.strKind pr wo) (s := { z' with toks := z'.toks + 1 }) (strKind_is _ _ _ _) rfl hS' small fun h' sb hS2 => ?_
    have nxt : h'.SetOf (PySem.strKind pr wo) c (fun k => (xs.take (i + 1)).any (· == k)) (unl xs (i + 1)) :=
      SetOf_congr hS2 (fun k => (take_any xs (by omega) k).symm) (by rw [unl])
    refine wpAny_pure ⟨plainId_quiet PyProof.Rows.F.plain_set_update_loop _, set_rows Wk c hc xs hx hN hv m (i + 1) _ (by omega) lt (Wk.frame _ z' _ _ hs' (Nat.le_succ _) fun b hb o e => ?_) nxt fun z2 mv2 hS3 => ?_⟩
    · rw [sb.2 b fun h => hc (by rw [← h]; exact hb)]
      exact e
    · refine fin z2 (Moved.trans Wk.gtrans ((mv.mono fun b hb => List.mem_cons_of_mem _ hb).then_heap (Nat.le_succ _) fun b o hb e => ?_) mv2) hS3
      rw [sb.2 b fun h => hb (by rw [h]; exact List.mem_cons_self)]
      exact e
end
section
variable {pr : Program} {wo : World} {B : Around} {Er : Value → Shared → Prop} {z : Shared} {c l : Addr} {vs : Array Value} {xs : List Str} {ld : Bool}
/-- a new set's object -/
abbrev bare (ld : Bool) : Obj := { cls := .type "set", dict := none, data := .set #[] 0 (.fresh 0 0 ld) }
/-- what is so once the texts are in -/
def Filled (pr : Program) (wo : World) (z : Shared) (c : Addr) (xs : List Str) (z' : Shared) : Prop := ∃ g n, z' = { z with heap := g, toks := n } ∧ g.SetOf (PySem.strKind pr wo) c (fun k => xs.any (· == k)) (unl xs xs.length) ∧ ∀ b o, b ≠ c → z.heap.get? b = some o → g.get? b = some o
theorem init_strs (c0 : z.heap.get? c = some (bare ld)) (hl : z.heap.IsList l vs) (ok : StrsAre vs.toList xs) (small : vs.size + 1 < scanBound) (nH : B.handled = none) :
    codeAny (model pr wo) B (.call (.builtin "set.__init__") ⟨[.ref c, .ref l], []⟩) (wants (fun r z' => r = .none ∧ Filled pr wo z c xs z') Er) z := by
  have ty : z.TypeIs (.ref c) "set" := ⟨_, c0, rfl⟩
  refine codeAny_call_builtin PySem.F.called_set.init.plain PySem.F.entry_set_init (check_set_init_1 ty ?_)
  obtain ⟨o, lo, lc, ll, ldt⟩ := id hl
  obtain ⟨ocls, odict, odata, oslots⟩ := o
  dsimp only at lc ldt
  subst lc
  subst ldt
  have f1 := PySem.F.sub_list_set
  have f2 := PySem.F.sub_list_frozenset
  have f3 : (Value.type "list" == Value.type "dict") = false := by decide
  unfold Builtin.«set.__init__» noKeywords Builtin.Frozenset.updateFrom
  generalize eP : pyIter = PY
  wp_walk
  subst eP
  have cne : c < z.heap.objs.size := Heap.lt_size c0
  have lne : l < z.heap.objs.size := Heap.lt_size lo
  have cl : c ≠ l := fun e => by
    subst e
    rw [c0] at lo
    injection lo with lo
    have : (Value.type "set" : Value) = Value.type "list" := congrArg Obj.cls lo
    exact absurd this (by decide)
  refine wpAny_pyIter_list hl (wpAny_bind (wpAny_runValue ?_))
  have len : xs.length = vs.size := by rw [← StrsAre.len_eq ok, Array.length_toList]
  have away : c ∉ [z.heap.objs.size, l] := by
    intro h
    rcases List.mem_cons.mp h with h | h
    · exact Nat.ne_of_lt cne h
    · exact cl (List.mem_singleton.mp h)
  have W0 := (Walks.list (prog := pr) (w := wo) (A := B.in1.in1) (by simp [nH]) z.heap.objs.size l (Nat.ne_of_lt lne) vs).toS
  have at1 : ((z.heap.push { cls := .type "list_iterator", data := .fields #[.ref l, .int 0 0] }).get? c) = some (bare ld) := Heap.get?_push_of_some _ c0
  refine set_rows W0 c away xs len small (fun i v e => SS.strs_at ok i v (by rw [Array.getElem?_toList]; exact e)) (vs.size - 0) 0 _ rfl (Nat.zero_le _) ⟨⟨_, Heap.get?_push_size _ rfl, rfl, rfl⟩, hl.push _⟩
    (SetOf_congr ((setObjOf_fresh (knd := PySem.strKind pr wo) ld).setOf at1 (by unfold scanBound; omega)) (fun _ => rfl) rfl) fun z2 mv hS => ?_
  obtain ⟨g2, gg, dd, tk, oo⟩ := z2
  obtain rfl : gg = z.gens := mv.gens
  obtain rfl : dd = z.drawn := mv.drawn
  obtain rfl : oo = z.os := mv.os
  show wpAny _ _ _ _ _ _
  refine wpAny_pure (wpAny_pure ⟨rfl, g2, tk, rfl, ?_, fun b o hb e => ?_⟩)
  · rw [← len, List.take_length] at hS
    exact hS
  · have hbl := Heap.lt_size e
    refine mv.heap b o (fun h => ?_) (Heap.get?_push_of_some _ e)
    rcases List.mem_cons.mp h with h | h
    · exact hb h
    · exact Nat.ne_of_lt hbl (List.mem_singleton.mp h)
theorem set_strs {Q : Value → Shared → Prop} (nH : B.handled = none) (hl : z.heap.IsList l vs) (ok : StrsAre vs.toList xs) (small : vs.size + 1 < scanBound)
    (q : ∀ z', (∃ ld, Filled pr wo { z with heap := z.heap.push (bare ld) } z.heap.objs.size xs z') → Q (.ref z.heap.objs.size) z') : wpAny (model pr wo) B (call (.type "set") [.ref l]) Q Er z := by
  obtain ⟨cc, tl, g0⟩ := PySem.F.called_set.mro
  have g1 := PySem.F.called_set.made
  have g2 := PySem.F.called_set.sub
  have g3 := PySem.F.called_set.notType
  have g4 := PySem.F.called_set.canCreate
  have g5 := PySem.F.typeCall_set_1 (.ref l)
  have lk := PySem.F.called_set.init.lookup
  refine wpAny_call (codeAny_of_tree (?_ : wpAny _ _ (callAny (.type "set") _) _ _ _))
  refine wpAny_pure ⟨Code.quiet_builtin _ (by decide +kernel), codeAny_builtin PySem.F.entry_type_call ?_⟩
  rw [Around.under_plain (weight_type_call_type "set" [.ref l] []) rfl]
  repeat (any_goals (first | assumption | wp_step))
  refine codeAny_mono (code_set_new_1 (.ref l) (E := Er) (Q₁ := fun v y => ∃ ld : Bool, v = .ref z.heap.objs.size ∧ y = { z with heap := z.heap.push (bare ld) }) fun ld => ⟨ld, rfl, rfl⟩) fun r y hy => ?_
  match r, hy with
  | .error e, hy => exact hy
  | .ok (.ret v), hy =>
    obtain ⟨ld, rfl, rfl⟩ := hy
    have bd := PySem.F.called_set.init.bind (.ref z.heap.objs.size)
    have c0 : (z.heap.push (bare ld)).get? z.heap.objs.size = some (bare ld) := Heap.get?_push_size _ rfl
    have ty : Shared.TypeIs { z with heap := z.heap.push (bare ld) } (.ref z.heap.objs.size) "set" := ⟨_, c0, rfl⟩
    repeat (any_goals (first | assumption | wp_step))
    refine codeAny_mono (init_strs (Er := Er) c0 (hl.push _) ok small (by simp [nH])) fun r y hy => ?_
    match r, hy with
    | .error e, hy => exact hy
    | .ok (.ret v), hy =>
      obtain ⟨rfl, F⟩ := hy
      repeat (any_goals (first | assumption | wp_step))
      exact q _ ⟨ld, F⟩
end
section
variable {P : Pg} {g : GE} {fad : Str → Addr} {fdo : Str → FuncData} {pso : Str → List Str} {F : FF} {k : Nat} {X : Cx} {W : WX}
variable {a : Expr} {ma : M} {p p2 q pos : Pos}
theorem RP.sql {K : PySem.W.Frag} {ρ : Tr} {H : Hp} {h : PH} {x : PV} {v : V} {l : List PV} (a : RP K ρ H x v) (S : Sim K ρ h H) (e : seqOf h x = some l) (hx : ¬isTupP0 x = true) : ∃ p vs, v = .ref p ∧ SqL K H p vs ∧ RPs K ρ H l vs := by
  obtain ⟨p, vs, rfl, h1, h2⟩ := a.seq S e
  rcases h1 with h1 | h1
  · exact ⟨p, vs, rfl, h1, h2⟩
  · cases x with
    | tup l' => exact absurd rfl hx
    | fro l' =>
      simp only [seqOf, Option.some.injEq] at e; subst e
      cases a with
      | fro h3 h4 => exact ⟨_, _, rfl, .inl (.inr ⟨_, h3⟩), h4⟩
      | frl _ _ h3 h4 => exact ⟨_, _, rfl, SqL.of h3, h4⟩
      | frk h3 h4 => exact ⟨_, _, rfl, h3 H, h4⟩
    | ref n =>
      simp only [seqOf] at e
      split at e
      · rename_i l' e2
        cases e
        obtain ⟨q, ws, e3, _, h3, h4⟩ := a.lstAt S e2
        exact ⟨q, ws, e3, SqL.of h3, h4⟩
      · cases e
    | _ => cases e
theorem n_lns (C : Ct P g fad fdo pso F k X W) (hl : g "len" = some .free) (hL : Gl X "len") (hs : g "set" = some .free) (hS : Gl X "set") (hn : isStar a = false) (ha : PE X a (T X.K W ma)) :
    PE X (.Call (.Name "len" p) [.Call (.Name "set" p2) [a] [] q] [] pos) (T X.K W fun sl h => (ma sl h).bind fun x h => lnsM x h) := by
  have na : starEach [a] X.env = (false, eval a X.env) :: starEach [] X.env := star_no hn
  refine ⟨fun pins s σ H Q I ⟨ρ, sl, h, A, gd⟩ => ?_⟩
  refine Call_ (ld_blt I hL (C.fs.free _ hl) boot_len (callWith_builtin1 (args_cons (?_ : wpAny _ _ (eval (.Call (.Name "set" p2) [a] [] q) X.env) _ _ _) rfl) rfl rfl))
  refine Call_ (ld_blt I hS (C.fs.free _ hs) boot_set (callWith_type1 (args_cons (thn (ha.run pins s σ H (fun v H1 => ∃ ρ1 h1 x, At X.K ρ1 h1 H1 sl σ ∧ RP X.K ρ1 H1 x v ∧ Good X.K W σ ρ1 H1 (lnsM x h1) Q) I (T.step A gd fun ρ1 H1 h1 x v l k A1 r g1 => ⟨ρ1, h1, x, A1, r, g1⟩)) fun u s1 ⟨v, H1, I1, r1, ρ1, h1, x, A1, r, g1⟩ => args_nil ?_) na) na rfl))
  unfold lnsM at g1
  split at g1
  · rename_i l e
    split at g1
    · exact g1.elim
    · rename_i hx
      obtain ⟨b, vs, rfl, hq, rs⟩ := r.sql A1.sim e hx
      cases r1
      split at g1
      · rename_i ss es
        split at g1
        · rename_i hz
          obtain rfl := rs.strs es
          obtain ⟨its, rv, pl, hs2⟩ := I1.list hq
          have sz : its.toArray.size = ss.length := by rw [List.size_toArray, ← rv.length, List.length_map]
          refine set_strs (xs := ss) (I1.ok.hd C.calm) pl.isList (by simpa using strsAre_of rv) (by rw [sz]; unfold scanBound; omega) fun z' ⟨ld, g2, n2, ez, hS2, kp⟩ => ?_
          subst ez
          refine args_nil ?_
          obtain ⟨o, es2, ep, t, ho, hex, hd, _, _, _, hf, hc⟩ := hS2
          have I2 : Inv X pins σ H1 { s1 with heap := g2, toks := n2 } := I1.kept fun c o e => kp c o (Nat.ne_of_lt (Heap.lt_size e)) (Heap.get?_push_of_some _ e)
          have le := unl_le ss ss.length
          exact call_len_set ho hex hd hf (by rw [hc]; omega) ⟨.int (unl ss ss.length : Nat), H1, I2.tok _, ⟨_, by rw [hc]⟩, g1.here A1 (.int _)⟩
        · exact g1.elim
      · exact g1.elim
  · exact g1.elim
end
end R
end

section
set_option Elab.async false
set_option linter.all false
set_option maxRecDepth 100000
set_option maxHeartbeats 4000000
/-! List comprehensions. -/
namespace R
open PySem PySem.Spec PyProof.Rows L2
abbrev Wf : WX := fun _ _ _ _ => False
def Tr.lay (ρ : Tr) (D : Addr) : Tr := ⟨ρ.l, D :: ρ.b⟩
section
variable {K : PySem.W.Frag} {ρ : Tr} {H : Hp} {h : PH} {D : Addr}
theorem mv_lay (hD : H D = none) (S : Sim K ρ h H) {u : HO} : MV ρ (ρ.lay D) H (upd H D u) :=
  ⟨List.prefix_refl _, fun a o w e => upd_same_of hD _ _ e, fun a o e n nb => ⟨n, fun z => (List.mem_cons.mp z).elim (fun z => by rw [z, hD] at e; cases e) nb, upd_same_of hD _ _ e⟩⟩
theorem sim_lay (hD : H D = none) (S : Sim K ρ h H) {vs : List V} : Sim K (ρ.lay D) h (upd H D (.lst vs)) := by
  have nD : D ∉ ρ := fun m => by
    obtain ⟨u, e, _⟩ := S.mem m
    rw [hD] at e; cases e
  refine S.move rfl (mv_lay hD S) (fun a _ u e => upd_same_of hD _ _ e) (fun a ha => ?_) fun a ha => ?_
  · rcases List.mem_cons.mp ha with z | ha
    · exact ⟨vs, by rw [z]; exact upd_same⟩
    · obtain ⟨ws, e⟩ := S.bz a ha
      exact ⟨ws, upd_same_of hD _ _ e⟩
  · rcases List.mem_cons.mp ha with z | ha
    · rw [z]; exact nD
    · exact S.bd a ha
/-- the one that is being made is written -/
theorem mv_put (hb : D ∈ ρ.b) (hD : ∃ ws, H D = some (.lst ws)) {u : HO} : MV ρ ρ H (upd H D u) := by
  obtain ⟨ws, hD⟩ := hD
  refine ⟨List.prefix_refl _, fun a o w e => ?_, fun a o e n nb => ⟨n, nb, ?_⟩⟩
  · rw [upd_ne (fun z => by rw [z, hD] at e; cases e)]; exact e
  · rw [upd_ne (fun z => nb (by rw [z]; exact hb))]; exact e
theorem sim_put (hb : D ∈ ρ.b) (S : Sim K ρ h H) {vs : List V} : Sim K ρ h (upd H D (.lst vs)) := by
  refine S.move rfl (mv_put hb (S.bz D hb)) (fun a m u e => ?_) (fun a ha => ?_) S.bd
  · rw [upd_ne (fun z => S.bd D hb (by rw [← z]; exact m))]; exact e
  · by_cases z : a = D
    · exact ⟨vs, by rw [z]; exact upd_same⟩
    · obtain ⟨ws, e⟩ := S.bz a ha
      exact ⟨ws, by rw [upd_ne z]; exact e⟩
/-- done -/
theorem mv_off {ρ' : Tr} (el : ρ'.l = ρ.l) (eb : ∀ a, a ∈ ρ'.b → a ∈ ρ.b) : MV ρ ρ' H H :=
  ⟨by rw [el]; exact List.prefix_refl _, fun _ _ _ e => e, fun a o e n nb => ⟨fun z => n (by show a ∈ ρ.l; rw [← el]; exact z), fun z => nb (eb a z), e⟩⟩
theorem sim_off {ρ' : Tr} (S : Sim K ρ h H) (el : ρ'.l = ρ.l) (eb : ∀ a, a ∈ ρ'.b → a ∈ ρ.b) : Sim K ρ' h H :=
  S.move el (mv_off el eb) (fun _ _ _ e => e) (fun a ha => S.bz a (eb a ha)) fun a ha z => S.bd a (eb a ha) (by show a ∈ ρ.l; rw [← el]; exact z)
/-- Keep tells of the tracked alone -/
theorem Keep.left {ρ0 ρ1 ρ2 : Tr} {H0 H1 : Hp} (k : Keep ρ0 ρ1 H0 H1) (el : ρ2.l = ρ1.l) : Keep ρ0 ρ2 H0 H1 :=
  ⟨fun a o e n => ⟨fun z => (k.fix a o e n).1 (by show a ∈ ρ1.l; rw [← el]; exact z), (k.fix a o e n).2⟩, k.frz⟩
theorem Keep.from {ρ0 ρ0' ρ1 : Tr} {H0 H1 : Hp} (k : Keep ρ0 ρ1 H0 H1) (el : ρ0'.l = ρ0.l) : Keep ρ0' ρ1 H0 H1 :=
  ⟨fun a o e n => k.fix a o e fun z => n (by show a ∈ ρ0'.l; rw [el]; exact z), k.frz⟩
theorem Keep.put {ρ0 ρ1 : Tr} {H0 H1 : Hp} (k : Keep ρ0 ρ1 H0 H1) (hD : H0 D = none) {u : HO} : Keep ρ0 ρ1 H0 (upd H1 D u) :=
  ⟨fun a o e n => ⟨(k.fix a o e n).1, by rw [upd_ne (fun z => by rw [z, hD] at e; cases e)]; exact (k.fix a o e n).2⟩, fun a o w e => by rw [upd_ne (fun z => by rw [z, hD] at e; cases e)]; exact k.frz _ _ _ e⟩
end
theorem wipe_comm (σ : L2.St) (v : Nat) : ∀ vs : List Nat, L2.wipe (σ.set v none) vs = (L2.wipe σ vs).set v none
  | [] => rfl
  | u :: vs => by
    show (L2.wipe (σ.set v none) vs).set u none = ((L2.wipe σ vs).set u none).set v none
    rw [wipe_comm σ v vs]
    by_cases e : u = v
    · rw [e]
    · exact List.set_comm _ _ (Ne.symm e)
theorem wipe_wipe (σ : L2.St) : ∀ vs : List Nat, L2.wipe (L2.wipe σ vs) vs = L2.wipe σ vs
  | [] => rfl
  | v :: vs => by
    show (L2.wipe ((L2.wipe σ vs).set v none) vs).set v none = (L2.wipe σ vs).set v none
    rw [wipe_comm, List.set_set, wipe_wipe σ vs]
end R
end

section
set_option Elab.async false
set_option linter.all false
set_option maxRecDepth 100000
set_option maxHeartbeats 4000000
/-! List comprehensions of several clauses. -/
namespace R
open PySem PySem.Spec PyProof.Rows L2
/-- the next clause -/
inductive Nxt (gens : List Comprehension) (d : Nat) : Option Expr → Prop
  | some {t i : Expr} {ifs : List Expr} : gens[d + 1]? = some ⟨t, i, ifs, 0⟩ → (∀ env x, foldedSetIterable i env x = pure x) → Nxt gens d (some i)
  | none : gens[d + 1]? = none → Nxt gens d none
/-- what stands behind a turn's tests: the next clause, or the item -/
def TailP (prog : Program) (w : World) (A : Around) (NB : Value → Shared → Prop) (elt : Expr) (gens : List Comprehension) (scope : Scope) (pos : Pos) (d : Nat) (acc : Value) (env : Env) : Option Expr → (Shared → Prop) → Shared → Prop
  | some i, Q, s => wpAny (model prog w) A (eval i env) (fun x s₄ => wpAny (model prog w) A (pyIter x) (fun it1 s₅ =>
      codeAny (model prog w) A (.compStart (.ListComp elt gens scope pos) (d + 1) it1 acc env) (fun r s' => match r with
        | .ok _ => Q s'
        | .error _ => False) s₅) NB s₄) NB s
  | none, Q, s => wpAny (model prog w) A (eval elt env) (fun x s₄ => wpAny (model prog w) A (call (.builtin "list.append") [acc, x]) (fun _ s₅ => Q s₅) NB s₄) NB s
section
variable {prog : Program} {w : World} {A : Around} {R : Result → Shared → Prop} {s : Shared} {elt t i t' i' : Expr} {gens : List Comprehension} {ifs ifs' : List Expr} {scope : Scope} {pos : Pos} {it acc : Value} {env : Env} {d : Nat}
theorem compTurn_next (hg : gens[d]? = some ⟨t, i, ifs, 0⟩) (hn : gens[d + 1]? = some ⟨t', i', ifs', 0⟩) : compTurn (.ListComp elt gens scope pos) d it acc env = (do
      standAt i.pos
      match ← pyNext it with
      | none => pure (.done .next)
      | some v =>
        letOwnedTupleGo t it v
        assign t env v
        let mut ok := true
        for c in ifs do
          if ok then ok ← isTrue c env (eval c env)
        if ok then
          let x ← eval i' env
          standAt i'.pos
          let x ← foldedSetIterable i' env x
          let _ ← runOwn (.compStart (.ListComp elt gens scope pos) (d + 1) (← holding [x] (pyIter x)) acc env) env
        again (.compLoop (.ListComp elt gens scope pos) d it acc env)) := by
  unfold compTurn
  simp only [hg, hn]
  rfl
theorem compTurn_last (hg : gens[d]? = some ⟨t, i, ifs, 0⟩) (hn : gens[d + 1]? = none) : compTurn (.ListComp elt gens scope pos) d it acc env = (do
      standAt i.pos
      match ← pyNext it with
      | none => pure (.done .next)
      | some v =>
        letOwnedTupleGo t it v
        assign t env v
        let mut ok := true
        for c in ifs do
          if ok then ok ← isTrue c env (eval c env)
        if ok then
          (do let _ ← call (.builtin "list.append") [acc, ← eval elt env])
        again (.compLoop (.ListComp elt gens scope pos) d it acc env)) := by
  unfold compTurn
  simp only [hg, hn]
  rfl
theorem compLoop_gen {nx : Option Expr} (hg : gens[d]? = some ⟨t, i, ifs, 0⟩) (hn : Nxt gens d nx) (I : Nat → Shared → Prop)
    (turn : ∀ n s, I n s → wpAny (model prog w) A (pyNext it) (fun r s₁ => match r with
      | none => R (.ok .next) s₁
      | some v => wpAny (model prog w) A (letOwnedTupleGo t it v) (fun _ s₁' => wpAny (model prog w) A (assign t env v) (fun _ s₂ =>
          wpAny (model prog w) A (forIn ifs true fun c r => if r = true then do let ok ← isTrue c env (eval c env); pure (ForInStep.yield ok) else pure (ForInStep.yield r)) (fun ok s₃ =>
            if ok = true then TailP prog w A (notedBy (model prog w) A env fun e s' => R (.error e) s') elt gens scope pos d acc env nx (fun s₅ => ∃ m, m < n ∧ I m s₅) s₃
            else ∃ m, m < n ∧ I m s₃) (notedBy (model prog w) A env fun e s' => R (.error e) s') s₂) (notedBy (model prog w) A env fun e s' => R (.error e) s') s₁') (notedBy (model prog w) A env fun e s' => R (.error e) s') s₁) (notedBy (model prog w) A env fun e s' => R (.error e) s') s)
    (n : Nat) (h : I n s) :
    codeAny (model prog w) A (.compLoop (.ListComp elt gens scope pos) d it acc env) R s := by
  refine codeAny_loop rfl I (fun n s hI => ?_) n h
  show wpAny _ A ((compTurn (.ListComp elt gens scope pos) d it acc env).onRaise (fun x => do noteFrame x env; theTreesLotGoes x)) _ _ s
  refine wpAny_noted ?_
  cases hn with
  | some e hs =>
    rw [compTurn_next hg e]
    refine wpAny_bind (wpAny_standAt (wpAny_bind (wpAny_mono (turn n s hI) (fun r s₁ h₁ => ?_) fun _ _ h' => h')))
    cases r with
    | none => exact wpAny_pure h₁
    | some v =>
      refine wpAny_bind (wpAny_mono h₁ (fun _ s₁' h₁' => ?_) fun _ _ h' => h')
      refine wpAny_bind (wpAny_mono h₁' (fun _ s₂ h₂ => wpAny_bind (wpAny_mono h₂ (fun ok s₃ h₃ => ?_) fun _ _ h' => h')) fun _ _ h' => h')
      cases ok with
      | false => exact wpAny_pure ⟨rfl, h₃⟩
      | true =>
        refine wpAny_bind (wpAny_mono h₃ (fun x s₄ h₄ => ?_) fun _ _ h' => h')
        refine wpAny_bind (wpAny_standAt (wpAny_bind (wpAny_of_eq (hs env x) (wpAny_bind (wpAny_holding (wpAny_mono h₄ (fun it1 s₅ h₅ => ?_) fun _ _ h' => h'))))))
        refine wpAny_bind (wpAny_runOwn ?_)
        rw [Around.mark_none]
        refine codeAny_mono h₅ fun r s' hr => ?_
        cases r with
        | ok f =>
          first
            | exact wpAny_pure ⟨rfl, hr⟩
            | exact wpAny_bind (wpAny_pure (wpAny_pure ⟨rfl, hr⟩))
        | error e => exact hr.elim
  | none e =>
    rw [compTurn_last hg e]
    refine wpAny_bind (wpAny_standAt (wpAny_bind (wpAny_mono (turn n s hI) (fun r s₁ h₁ => ?_) fun _ _ h' => h')))
    cases r with
    | none => exact wpAny_pure h₁
    | some v =>
      refine wpAny_bind (wpAny_mono h₁ (fun _ s₁' h₁' => ?_) fun _ _ h' => h')
      refine wpAny_bind (wpAny_mono h₁' (fun _ s₂ h₂ => wpAny_bind (wpAny_mono h₂ (fun ok s₃ h₃ => ?_) fun _ _ h' => h')) fun _ _ h' => h')
      cases ok with
      | false => exact wpAny_pure ⟨rfl, h₃⟩
      | true =>
        exact wpAny_bind (wpAny_bind (wpAny_mono h₃ (fun x s₄ h₄ => wpAny_bind (wpAny_mono h₄ (fun _ s₅ h₅ => wpAny_pure (wpAny_pure ⟨rfl, h₅⟩)) fun _ _ h' => h')) fun _ _ h' => h'))
theorem TailP.mono {NB NB' : Value → Shared → Prop} {nx : Option Expr} {Q Q' : Shared → Prop} (h : TailP prog w A NB elt gens scope pos d acc env nx Q s) (hq : ∀ s, Q s → Q' s) (hn : ∀ e s, NB e s → NB' e s) : TailP prog w A NB' elt gens scope pos d acc env nx Q' s := by
  cases nx with
  | some i =>
    refine wpAny_mono h (fun x s1 h1 => wpAny_mono h1 (fun y s2 h2 => codeAny_mono h2 fun r s3 h3 => ?_) hn) hn
    cases r with
    | ok f => exact hq _ h3
    | error e => exact h3
  | none => exact wpAny_mono h (fun x s1 h1 => wpAny_mono h1 (fun y s2 h2 => hq _ h2) hn) hn
/-- a later clause's start -/
theorem compStart_gen (hg : gens[d]? = some ⟨t, i, ifs, 0⟩) (h0 : codeAny (model prog w) A (.compLoop (.ListComp elt gens scope pos) d it acc env) R s)
    (h : wpAny (model prog w) A (pyIter it) (fun it' s' => codeAny (model prog w) A (.compLoop (.ListComp elt gens scope pos) d it' acc env) R s')
      (notedBy (model prog w) A env fun x s' => R (.error x) s') s) :
    codeAny (model prog w) A (.compStart (.ListComp elt gens scope pos) d it acc env) R s := by
  refine codeAny_of_tree ?_
  show wpAny _ _ ((compStart (.ListComp elt gens scope pos) d it acc env).onRaise (fun x => do noteFrame x env; standAt theWindowsPlace)) _ _ s
  refine wpAny_notedAt ?_
  unfold compStart
  have hcl : (clausesOf (.ListComp elt gens scope pos))[d]? = some ⟨t, i, ifs, 0⟩ := hg
  simp only [hcl]
  show wpAny _ _ (ask >>= _) _ _ s
  refine wpAny_bind (wpAny_askSetting (wpAny_ite ?_))
  split
  · first
      | exact wpAny_bind (wpAny_pure (wpAny_pure (And.intro rfl h0)))
      | exact wpAny_pure (And.intro rfl h0)
  · first
      | exact wpAny_bind (wpAny_rule (wpAny_bind (wpAny_standAt (wpAny_bind (wpAny_mono h (fun it' s' h' => wpAny_pure (And.intro rfl h')) fun _ _ x => x)))))
      | (refine wpAny_bind (wpAny_rule ?_); show wpAny _ _ (standAt i.pos >>= _) _ _ s; exact wpAny_bind (wpAny_standAt (wpAny_bind (wpAny_mono h (fun it' s' h' => wpAny_pure (And.intro rfl h')) fun _ _ x => x))))
end
/-- what stays, but D -/
structure KD (D : Addr) (ρ ρ' : Tr) (H H' : Hp) : Prop where
  l : Tr.Le ρ ρ'
  fx : ∀ a o, H a = some o → a ∉ ρ → a ≠ D → a ∉ ρ' ∧ H' a = some o
  fz : ∀ a o u, H a = some (.frz o u) → H' a = some (.frz o u)
section
variable {D : Addr} {ρ ρ1 ρ2 : Tr} {H H1 H2 : Hp}
theorem KD.refl : KD D ρ ρ H H := ⟨Tr.le_refl _, fun _ _ e n _ => ⟨n, e⟩, fun _ _ _ e => e⟩
theorem KD.trans (a : KD D ρ ρ1 H H1) (b : KD D ρ1 ρ2 H1 H2) : KD D ρ ρ2 H H2 := ⟨a.l.trans b.l, fun c o e n d => let ⟨x, y⟩ := a.fx c o e n d; b.fx c o y x d, fun c o u e => b.fz _ _ _ (a.fz _ _ _ e)⟩
theorem KD.of (l : Tr.Le ρ ρ1) (k : Keep ρ ρ1 H H1) : KD D ρ ρ1 H H1 := ⟨l, fun a o e n _ => k.fix a o e n, k.frz⟩
theorem KD.mv (k : KD D ρ ρ1 H H1) (hb : D ∈ ρ.b) : MV ρ ρ1 H H1 := ⟨k.l.l, k.fz, fun a o e n nb => ⟨(k.fx a _ e n (fun z => nb (by rw [z]; exact hb))).1, by rw [k.l.b]; exact nb, (k.fx a _ e n (fun z => nb (by rw [z]; exact hb))).2⟩⟩
theorem KD.put (hD : ∃ ws, H D = some (.lst ws)) {u : HO} : KD D ρ ρ H (upd H D u) := by
  obtain ⟨ws, hD⟩ := hD
  exact ⟨Tr.le_refl _, fun a o e n d => ⟨n, by rw [upd_ne d]; exact e⟩, fun a o w e => by rw [upd_ne (fun z => by rw [z, hD] at e; cases e)]; exact e⟩
end
/-- the list that is being made, as it stands -/
structure Mkg (K : PySem.W.Frag) (D : Addr) (ρ : Tr) (h : PH) (H : Hp) (acc : List PV) : Prop where
  sim : Sim K ρ h H
  hb : D ∈ ρ.b
  lst : ∃ vs, H D = some (.lst vs) ∧ RPs K ρ H acc vs
theorem Mkg.step {K : PySem.W.Frag} {D : Addr} {ρ ρ' : Tr} {h h' : PH} {H H' : Hp} {acc : List PV} (m : Mkg K D ρ h H acc) (l : Tr.Le ρ ρ') (k : Keep ρ ρ' H H') (S : Sim K ρ' h' H') : Mkg K D ρ' h' H' acc := by
  obtain ⟨vs, h1, h2⟩ := m.lst
  have nD : D ∉ ρ := m.sim.bd D m.hb
  exact ⟨S, by rw [l.b]; exact m.hb, vs, (k.fix D _ h1 nD).2, h2.mono l k⟩
section
variable {X : Cx} {scope : Scope} {D : Addr} {s3 : Shared} {H3 : Hp} {ce : Env} {fp0 : List Addr}
/-- what a turn's tail does, by its own form -/
def LV (X : Cx) (D : Addr) (ws : List Nat) (mb : Sl → PH → List PV → Rs (List PV)) (tail : (Shared → Prop) → Shared → Prop) : Prop :=
  ∀ (pins : List (Addr × Obj)) (s : Shared) (σ : L2.St) (H : Hp) (ρ : Tr) (sl : Sl) (h : PH) (acc acc' : List PV) (h' : PH), Inv X pins σ H s → Mkg X.K D ρ h H acc → RS X.K ρ H sl σ → mb sl h acc = .ok acc' h' →
    tail (fun s' => ∃ H' ρ', Inv X pins (L2.wipe σ ws) H' s' ∧ KD D ρ ρ' H H' ∧ Mkg X.K D ρ' h' H' acc') s
theorem Inv.wiped {pins : List (Addr × Obj)} {σ : L2.St} {H : Hp} {s : Shared} (I : L2.Inv X pins σ H s) (ws : List Nat) : L2.Inv X pins (L2.wipe σ ws) H s := I.weak (wipe_length _ _) fun j v e => (wipe_some e).1
/-- the last clause's: the item is appended -/
theorem lv_emit {elt : Expr} {gens : List Comprehension} {pos : Pos} {d : Nat} {me : M} (he : PE X elt (T X.K Wf me)) (hx : X.xe = fun _ _ => False) :
    LV X D [] (fun sl h acc => (me sl h).bind fun y h => if acc.length < sizeL then .ok (acc ++ [y]) h else .bad) (TailP X.prog X.w X.A (fun _ _ => False) elt gens scope pos d (.ref D) X.env none) := by
  intro pins s σ H ρ sl h acc acc' h' I m rs eq
  dsimp only at eq
  show wpAny _ _ (eval elt X.env) _ _ s
  have hrun := he.run pins s σ H (fun v H1 => ∃ ρ1, KD D ρ ρ1 H (upd H1 D (.lst ((m.lst.choose) ++ [v]))) ∧ H1 D = some (.lst m.lst.choose) ∧ m.lst.choose.length < sizeLine ∧ Mkg X.K D ρ1 h' (upd H1 D (.lst (m.lst.choose ++ [v]))) acc') I (by
    refine ⟨ρ, sl, h, ⟨m.sim, rs⟩, ?_⟩
    cases e : me sl h with
    | er C as h2 => rw [e] at eq; cases eq
    | bad => rw [e] at eq; cases eq
    | ok y h2 =>
      rw [e] at eq
      simp only [Rs.bind_ok] at eq
      split at eq
      · rename_i hz
        simp only [Rs.ok.injEq] at eq
        obtain ⟨e1, e2⟩ := eq
        subst e1 e2
        intro ρ1 H1 v l k S r
        obtain ⟨c1, c2⟩ := m.lst.choose_spec
        have m1 := m.step l k S
        have nD : D ∉ ρ := m.sim.bd D m.hb
        have d1 : H1 D = some (.lst m.lst.choose) := (k.fix D _ c1 nD).2
        refine ⟨ρ1, (KD.of l k).trans (KD.put ⟨_, d1⟩), d1, by rw [← c2.length, ← sizeL_eq]; exact hz, sim_put m1.hb S, m1.hb, _, upd_same, ((c2.mono l k).append (.cons r .nil)).move (mv_put m1.hb ⟨_, d1⟩)⟩
      · cases eq)
  rw [hx] at hrun
  exact thn hrun fun u s1 ⟨v, H1, I1, ru, ρ1, kd, d1, hz, mk⟩ => L2.app_ok I1 d1 hz ru fun s2 I2 => ⟨_, ρ1, I2, kd, mk⟩

theorem RS.wipeM {K : PySem.W.Frag} {ρ ρ' : Tr} {H H' : Hp} {sl : Sl} {σ : L2.St} (r : RS K ρ H sl σ) (m : MV ρ ρ' H H') : RS K ρ' H' sl σ := ⟨r.len, fun j y e => by
  obtain ⟨v, h1, h2⟩ := r.get j y e
  exact ⟨v, h1, h2.move m⟩⟩
theorem stopI {src : Src} {h : PH} {i : Nat} (hb : (src.len h).any (· ≤ i) = true) : ∃ n', src.len h = some n' ∧ n' ≤ i := by
  cases e : src.len h with
  | none => rw [e] at hb; cases hb
  | some n' => rw [e] at hb; exact ⟨n', rfl, by simpa using hb⟩
/-- a clause's loop -/
theorem lv_loop {elt t i : Expr} {ifs : List Expr} {gens : List Comprehension} {pos : Pos} {d : Nat} {nx : Option Expr} {tgt : Tg} {vs ws : List Nat} {mc : Sl → PH → Rs Bool} {mb : Sl → PH → List PV → Rs (List PV)} (hc : X.calm = true) (hg : gens[d]? = some ⟨t, i, ifs, 0⟩) (hn : Nxt gens d nx)
    (pg : PG X t (gR X.K tgt)) (pt : PTs X ifs (TbR X.K Wf mc)) (lv : LV X D ws mb (TailP X.prog X.w X.A (fun _ _ => False) elt gens scope pos d (.ref D) X.env nx)) (hx : X.xe = fun _ _ => False) (hvt : ∀ j ∈ tgt.ix, j ∈ vs) (hvw : ∀ j ∈ ws, j ∈ vs)
    {it : Addr} {fp : List Addr} {tn : Nat → Heap → Prop} {J : It} {pins : List (Addr × Obj)} {s : Shared} {σ : L2.St} {H : Hp} {ρ : Tr} {sl : Sl} {h h' : PH} {acc acc' : List PV} {src : Src} {n : Nat} {R : Result → Shared → Prop}
    (T : Turn X.prog X.w X.K t J fp it tn) (st : tn 0 s.heap) (hf : ∀ b ∈ fp, FpOk X pins H b) (I : Inv X pins (L2.wipe σ vs) H s) (m : Mkg X.K D ρ h H acc) (rs : RS X.K ρ H (wipeS sl vs) (L2.wipe σ vs)) (fol : Fol X.K ρ H src J) (eq : clGo tgt vs mc mb src sl n 0 acc h = .ok acc' h')
    (hR : ∀ s' H' ρ', Inv X pins (L2.wipe σ vs) H' s' → (∀ b ∈ fp, H' b = none) → KD D ρ ρ' H H' → Mkg X.K D ρ' h' H' acc' → R (.ok .next) s') :
    codeAny (model X.prog X.w) X.A (.compLoop (.ListComp elt gens scope pos) d (.ref it) (.ref D) X.env) R s := by
  have nf : ∀ {H' : Hp} {s' : Shared}, (∀ b ∈ fp, H' b = none) → ∀ b ∈ fp, FpOk X pins H' b := fun hn b hb => ⟨hn b hb, (hf b hb).2⟩
  refine compLoop_gen hg hn (fun k s' => ∃ j H1 ρ1 h1 acc1, Inv X pins (L2.wipe σ vs) H1 s' ∧ tn j s'.heap ∧ (∀ b ∈ fp, H1 b = none) ∧ KD D ρ ρ1 H H1 ∧ Mkg X.K D ρ1 h1 H1 acc1 ∧ clGo tgt vs mc mb src sl k j acc1 h1 = .ok acc' h') ?_ n
    ⟨0, H, ρ, h, acc, I, st, fun b hb => (hf b hb).1, KD.refl, m, eq⟩
  rintro k s1 ⟨j, H1, ρ1, h1, acc1, I1, st1, n1, kd, m1, eq1⟩
  have mv1 := kd.mv m.hb
  have fj := fol ρ1 H1 h1 mv1 m1.sim j
  have stopped : (src.len h1).any (· ≤ j) = true → acc1 = acc' → h1 = h' → wpAny (model X.prog X.w) X.A (pyNext (.ref it)) (fun r s₁ => r = none ∧ R (.ok .next) s₁) (fun _ _ => False) s1 := fun hb e1 e2 => by
    obtain ⟨n', hs, hle⟩ := stopI hb
    subst e1 e2
    exact thn (T.done X rfl rfl rfl hc j pins s1 _ H1 (fun _ _ => False) I1 (nf (s' := s1) n1) st1 (fj.2 n' hs hle)) fun r s2 ⟨hr, I2⟩ => ⟨hr, hR s2 H1 ρ1 I2 n1 kd m1⟩
  cases k with
  | zero =>
    simp only [clGo] at eq1
    split at eq1
    · rename_i hb
      simp only [Rs.ok.injEq] at eq1
      exact thnF (stopped hb eq1.1 eq1.2) fun r s2 ⟨hr, q⟩ => by subst hr; exact q
    · cases eq1
  | succ k =>
    simp only [clGo] at eq1
    cases eg : src.get h1 j with
    | none =>
      rw [eg] at eq1
      simp only at eq1
      split at eq1
      · rename_i hb
        simp only [Rs.ok.injEq] at eq1
        exact thnF (stopped hb eq1.1 eq1.2) fun r s2 ⟨hr, q⟩ => by subst hr; exact q
      · cases eq1
    | some itm =>
      rw [eg] at eq1
      simp only at eq1
      obtain ⟨go, yl⟩ := fj.1 itm eg
      refine thnF (T.item X rfl rfl rfl hc j pins s1 _ H1 (fun _ _ => False) I1 (nf (s' := s1) n1) st1 go) fun r s2 ⟨u, hr, h2⟩ => ?_
      subst hr
      refine thnF h2 fun _ s3 ⟨x, H2, I2, ru, hy, st2, n2⟩ => ?_
      obtain ⟨ext, ri⟩ := yl x H2 hy
      have kx : Keep ρ1 ρ1 H1 H2 := .of_same ext
      have m2 : Mkg X.K D ρ1 h1 H2 acc1 := m1.step (Tr.le_refl _) kx (m1.sim.grow ext)
      have kd2 : KD D ρ ρ1 H H2 := kd.trans (KD.of (Tr.le_refl _) kx)
      have rs2 : RS X.K ρ1 H2 (wipeS sl vs) (L2.wipe σ vs) := rs.wipeM (kd2.mv m.hb)
      have I2' := I2.pinned (nf (s' := s3) n2) (T.obj _ _ st2)
      cases ea : asg tgt itm h1 (wipeS sl vs) with
      | none => rw [ea] at eq1; cases eq1
      | some sl2 =>
        rw [ea] at eq1
        simp only at eq1
        have hpg := pg.run _ s3 (L2.wipe σ vs) H2 x u (fun σ3 H3 => H3 = H2 ∧ L2.wipe σ3 vs = L2.wipe σ vs ∧ RS X.K ρ1 H2 sl2 σ3) I2' ru ⟨ρ1, h1, wipeS sl vs, itm, sl2, ⟨m2.sim, rs2⟩, ri, ea, fun vs' rs' => ⟨rfl, by rw [setAllV_wipe _ _ _ _ hvt]; exact wipe_wipe _ _, rs'⟩⟩
        rw [hx] at hpg
        refine thnF hpg fun _ s4 ⟨σ3, H3, I3, eH, ew, rs3⟩ => ?_
        subst eH
        cases ec : mc sl2 h1 with
        | er C as h2 => rw [ec] at eq1; cases eq1
        | bad => rw [ec] at eq1; cases eq1
        | ok b h2 =>
          rw [ec] at eq1
          simp only [Rs.bind_ok] at eq1
          have hpt := pt.run _ s4 σ3 H3 (fun b' H4 => b' = b ∧ ∃ ρ2, Tr.Le ρ1 ρ2 ∧ Keep ρ1 ρ2 H3 H4 ∧ Sim X.K ρ2 h2 H4) I3 ⟨ρ1, sl2, h1, ⟨m2.sim, rs3⟩, by
            rw [ec]
            exact fun ρ2 H4 l k S => ⟨rfl, ρ2, l, k, S⟩⟩
          rw [hx] at hpt
          refine thnF hpt fun b' s5 ⟨H4, I4, eb, ρ2, l2, k2, S2⟩ => ?_
          subst eb
          have m4 : Mkg X.K D ρ2 h2 H4 acc1 := m2.step l2 k2 S2
          have kd4 : KD D ρ ρ2 H H4 := kd2.trans (KD.of l2 k2)
          -- the turn's end
          have fin : ∀ {σ9 : L2.St} {s' : Shared} {H' : Hp} {ρ' : Tr} {h9 : PH} {acc9 : List PV}, Inv X (pins ++ pinsAt fp s3.heap) σ9 H' s' → (L2.wipe σ vs).length = σ9.length → (∀ (j : Nat) v, (L2.wipe σ vs)[j]? = some (some v) → σ9[j]? = some (some v)) → KD D ρ ρ' H H' → Mkg X.K D ρ' h9 H' acc9 →
              clGo tgt vs mc mb src sl k (j + 1) acc9 h9 = .ok acc' h' → ∃ k', k' < k + 1 ∧ ∃ j H1 ρ1 h1 acc1, Inv X pins (L2.wipe σ vs) H1 s' ∧ tn j s'.heap ∧ (∀ b ∈ fp, H1 b = none) ∧ KD D ρ ρ1 H H1 ∧ Mkg X.K D ρ1 h1 H1 acc1 ∧ clGo tgt vs mc mb src sl k' j acc1 h1 = .ok acc' h' := fun {σ9 s' H' ρ' h9 acc9} I' hl hk kd' m' e' => by
            have pin' : ∀ b ∈ fp, ∀ o, s3.heap.get? b = some o → s'.heap.get? b = some o ∧ H' b = none := fun b hb o e =>
              let z := I'.pin (b, o) (List.mem_append_right _ (List.mem_append_right _ (mem_pinsAt hb e)))
              ⟨z.1, z.2.1⟩
            refine ⟨k, Nat.lt_succ_self _, j + 1, H', ρ', h9, acc9, I'.unpinned.weak hl hk, T.keep _ _ _ st2 fun b hb o e => (pin' b hb o e).1, fun b hb => ?_, kd', m', e'⟩
            obtain ⟨o, e, _⟩ := T.obj _ _ st2 b hb
            exact (pin' b hb o e).2
          have hl3 : (L2.wipe σ vs).length = σ3.length := by rw [← ew, wipe_length]
          have hk3 : ∀ (j : Nat) v, (L2.wipe σ vs)[j]? = some (some v) → σ3[j]? = some (some v) := fun j v e => by
            rw [← ew] at e
            exact (wipe_some e).1
          cases b' with
          | false =>
            simp only [Bool.false_eq_true, if_false] at eq1 ⊢
            exact fin I4 hl3 hk3 kd4 m4 eq1
          | true =>
            simp only [if_true] at eq1 ⊢
            cases eb : mb sl2 h2 acc1 with
            | er C as h3 => rw [eb] at eq1; cases eq1
            | bad => rw [eb] at eq1; cases eq1
            | ok acc2 h3 =>
              rw [eb] at eq1
              simp only [Rs.bind_ok] at eq1
              refine (lv _ s5 σ3 H4 ρ2 sl2 h2 acc1 acc2 h3 I4 m4 (rs3.mono l2 k2) eb).mono (fun s' ⟨H', ρ', I', kd', m'⟩ => ?_) fun _ _ z => z.elim
              refine fin I' (hl3.trans (wipe_length _ _).symm) (fun j v e => ?_) (kd4.trans kd') m' eq1
              rw [← ew] at e
              obtain ⟨e1, e2⟩ := wipe_some e
              rw [wipe_out fun z => e2 (hvw j z)]
              exact e1
/-- an inner clause, as a tail -/
theorem lv_clause {elt t i : Expr} {ifs : List Expr} {gens : List Comprehension} {pos : Pos} {d : Nat} {nx : Option Expr} {tgt : Tg} {vs ws : List Nat} {mit : Sl → PH → Rs Src} {mc : Sl → PH → Rs Bool} {mb : Sl → PH → List PV → Rs (List PV)} (hc : X.calm = true) (hg : gens[d + 1]? = some ⟨t, i, ifs, 0⟩) (hn : Nxt gens (d + 1) nx)
    (pi_ : PI X t i (TiR X.K Wf mit)) (pg : PG X t (gR X.K tgt)) (pt : PTs X ifs (TbR X.K Wf mc)) (lv : LV X D ws mb (TailP X.prog X.w X.A (fun _ _ => False) elt gens scope pos (d + 1) (.ref D) X.env nx)) (hx : X.xe = fun _ _ => False) (hvt : ∀ j ∈ tgt.ix, j ∈ vs) (hvw : ∀ j ∈ ws, j ∈ vs) :
    LV X D vs (fun sl h acc => (mit sl h).bind fun src h => match src.len h with
      | some n => clGo tgt vs mc mb src sl n 0 acc h
      | none => .bad) (TailP X.prog X.w X.A (fun _ _ => False) elt gens scope pos d (.ref D) X.env (some i)) := by
  intro pins s σ H ρ sl h acc acc' h' I m rs eq
  dsimp only at eq
  cases em : mit sl h with
  | er C as h1 => rw [em] at eq; cases eq
  | bad => rw [em] at eq; cases eq
  | ok src h1 =>
    rw [em] at eq
    simp only [Rs.bind_ok] at eq
    cases en : src.len h1 with
    | none => rw [en] at eq; cases eq
    | some n =>
      rw [en] at eq
      simp only at eq
      have hpi := pi_.run pins s σ H (fun J H1 => ∃ ρ1, Tr.Le ρ ρ1 ∧ Keep ρ ρ1 H H1 ∧ Sim X.K ρ1 h1 H1 ∧ Fol X.K ρ1 H1 src J) I ⟨ρ, sl, h, ⟨m.sim, rs⟩, by
        rw [em]
        exact fun ρ1 H1 l k S J f => ⟨ρ1, l, k, S, f⟩⟩
      rw [hx] at hpi
      refine thn hpi fun xv s1 hh => thn hh fun itv s2 ⟨it, fp, tn, J, H2, e, I2, T, st2, f2, ρ1, l, k, S, fol⟩ => ?_
      subst e
      have loop : codeAny (model X.prog X.w) X.A (.compLoop (.ListComp elt gens scope pos) (d + 1) (.ref it) (.ref D) X.env) (fun r s' => match r with
          | .ok _ => ∃ H' ρ', Inv X pins (L2.wipe σ vs) H' s' ∧ KD D ρ ρ' H H' ∧ Mkg X.K D ρ' h' H' acc'
          | .error _ => False) s2 :=
        lv_loop hc hg hn pg pt lv hx hvt hvw T st2 f2 (Inv.wiped I2 vs) (m.step l k S) ((rs.mono l k).wipe vs) fol eq fun s' H' ρ' I' _ kd m' => ⟨H', ρ', I', (KD.of l k).trans kd, m'⟩
      exact compStart_gen hg loop (T.self X.A 0 _ _ _ st2 loop)

end
section
variable {X : Cx} {W : WX}
/-- the list that was made is handed on -/
theorem made_ok {ρ1 ρ2 : Tr} {H1 H2 : Hp} {h1 h2 : PH} {D : Addr} {acc : List PV} {σ : L2.St} {fr : Bool} {Q : VK} (hD : H1 D = none) (S1 : Sim X.K ρ1 h1 H1) (kd : KD D (ρ1.lay D) ρ2 (upd H1 D (.lst [])) H2) (m : Mkg X.K D ρ2 h2 H2 acc)
    (gd : Good X.K W σ ρ1 H1 (newF fr acc h2) Q) : Q (.ref D) H2 := by
  have eb : ρ2.b = D :: ρ1.b := kd.l.b
  have S2 := m.sim
  obtain ⟨vs, hl, ra⟩ := m.lst
  have lp : ρ1.l <+: ρ2.l := kd.l.l
  have k2 : Keep ρ1 ρ2 H1 H2 := ⟨fun a o e n => kd.fx a o (upd_same_of hD _ _ e) n (fun z => by rw [z, hD] at e; cases e), fun a o u e => kd.fz _ _ _ (upd_same_of hD _ _ e)⟩
  have offb : ∀ a, a ∈ ({ l := ρ2.l, b := ρ1.b } : Tr).b → a ∈ ρ2.b := fun a ha => by rw [eb]; exact List.mem_cons_of_mem _ ha
  have S3 : Sim X.K { l := ρ2.l, b := ρ1.b } h2 H2 := sim_off S2 rfl offb
  have r3 : RPs X.K { l := ρ2.l, b := ρ1.b } H2 acc vs := ra.move (mv_off (ρ := ρ2) (ρ' := { l := ρ2.l, b := ρ1.b }) rfl offb)
  have k3 : Keep ρ1 { l := ρ2.l, b := ρ1.b } H1 H2 := k2.left rfl
  have l3 : Tr.Le ρ1 { l := ρ2.l, b := ρ1.b } := ⟨lp, rfl⟩
  have nD : D ∉ ({ l := ρ2.l, b := ρ1.b } : Tr) := S2.bd D (by rw [eb]; exact List.mem_cons_self)
  have nb : D ∉ ρ1.b := fun z => by
    obtain ⟨ws, e⟩ := S1.bz D z
    rw [hD] at e; cases e
  cases fr with
  | true => exact gd _ H2 (.ref D) l3 k3 S3 (.frl nD nb hl r3)
  | false =>
    have mv4 : MV ρ2 { l := ρ2.l ++ [D], b := ρ1.b } H2 H2 := ⟨List.prefix_append _ _, fun _ _ _ e => e, fun a o e n nb => ⟨fun z => by
        rcases List.mem_append.mp (show a ∈ ρ2.l ++ [D] from z) with z | z
        · exact n z
        · have z : a = D := by simpa using z
          exact nb (by rw [eb, z]; exact List.mem_cons_self), fun z => nb (by rw [eb]; exact List.mem_cons_of_mem _ z), e⟩⟩
    have S4 : Sim X.K { l := ρ2.l ++ [D], b := ρ1.b } (h2 ++ [.lst acc]) H2 := by
      refine ⟨by simp [S2.len], ?_, fun m q a e e' => ?_, fun a ha => S2.bz a (by rw [eb]; exact List.mem_cons_of_mem _ ha), fun a ha z => ?_⟩
      · show (ρ2.l ++ [D]).Nodup
        rw [List.nodup_append]
        exact ⟨S2.nd, by simp, fun x hx y hy => by
          have : y = D := by simpa using hy
          subst this
          exact fun z => nD (z ▸ hx)⟩
      · have e' : (ρ2.l ++ [D])[m]? = some a := e'
        by_cases hn : m < h2.length
        · rw [List.getElem?_append_left hn] at e
          rw [List.getElem?_append_left (by rw [S2.len]; exact hn)] at e'
          exact (S2.obj m q a e e').move mv4 fun _ z => z
        · have hn2 : m = h2.length := by
            have := (List.getElem?_eq_some_iff.mp e).1
            rw [List.length_append, List.length_singleton] at this
            omega
          subst hn2
          rw [List.getElem?_append_right (Nat.le_refl _), Nat.sub_self] at e
          rw [← S2.len, List.getElem?_append_right (Nat.le_refl _), Nat.sub_self] at e'
          simp at e e'
          subst e e'
          exact ⟨vs, hl, ra.move mv4⟩
      · rcases List.mem_append.mp (show a ∈ ρ2.l ++ [D] from z) with z | z
        · exact S2.bd a (by rw [eb]; exact List.mem_cons_of_mem _ ha) z
        · have z : a = D := by simpa using z
          exact nb (z ▸ ha)
    have k4 : Keep ρ1 { l := ρ2.l ++ [D], b := ρ1.b } H1 H2 := by
      refine ⟨fun a o e n => ⟨fun z => ?_, (k2.fix a o e n).2⟩, k2.frz⟩
      rcases List.mem_append.mp (show a ∈ ρ2.l ++ [D] from z) with z | z
      · exact (k2.fix a o e n).1 z
      · have z : a = D := by simpa using z
        rw [z, hD] at e
        cases e
    exact gd { l := ρ2.l ++ [D], b := ρ1.b } H2 (.ref D) ⟨lp.trans (List.prefix_append _ _), rfl⟩ k4 S4 (.ref (by
      show (ρ2.l ++ [D])[h2.length]? = some D
      rw [← S2.len, List.getElem?_append_right (Nat.le_refl _), Nat.sub_self] <;> rfl))
def lcM (fr : Bool) (tgt : Tg) (own : List Nat) (mit : Sl → PH → Rs Src) (mc : Sl → PH → Rs Bool) (mb : Sl → PH → List PV → Rs (List PV)) : M := fun sl h => (mit sl h).bind fun src h =>
  (Rs.noEr (match src.len h with
    | some n => clGo tgt own mc mb src sl n 0 [] h
    | none => .bad)).bind fun l h => newF fr l h
theorem lcm_core {pins : List (Addr × Obj)} {s : Shared} {σ : L2.St} {H : Hp} {Q : VK} {elt tg iter : Expr} {ifs : List Expr} {gens : List Comprehension} {scope : Scope} {own : List (Str × Nat)} {ws : List Nat} {pos pos' : Pos} {nx : Option Expr} {tgt : Tg} {fr : Bool}
    {mit : Sl → PH → Rs Src} {mc : Sl → PH → Rs Bool} {mb : Sl → PH → List PV → Rs (List PV)} {use : Option (Value → Sem Unit)} {Qf : Value → Shared → Prop}
    (hc : X.calm = true) (hN : X.N.Nodup) (I : Inv X pins σ H s) (hi : PI X tg iter (TiR X.K W mit)) (ok : BlkOk X.N X.env.scope scope own) (hn : Nxt (⟨tg, iter, ifs, 0⟩ :: gens) 0 nx)
    (hg : ∀ (s : Shared) (H : Hp) (C : Addr) (cl : List (Str × Addr)) (fp : List Addr), PG (X.blk s H scope (compEnvC scope cl C X.env) fp) tg (gR X.K tgt)) (ht : ∀ (s : Shared) (H : Hp) (C : Addr) (cl : List (Str × Addr)) (fp : List Addr), PTs (X.blk s H scope (compEnvC scope cl C X.env) fp) ifs (TbR X.K Wf mc))
    (he : ∀ (s : Shared) (H : Hp) (C : Addr) (cl : List (Str × Addr)) (fp : List Addr) (D : Addr), LV (X.blk s H scope (compEnvC scope cl C X.env) fp) D ws mb (TailP X.prog X.w X.A (fun _ _ => False) elt (⟨tg, iter, ifs, 0⟩ :: gens) scope pos 0 (.ref D) (compEnvC scope cl C X.env) nx))
    (hs : ∀ x, foldedSetIterable iter X.env x = pure x) (hvt : ∀ j ∈ tgt.ix, j ∈ own.map (·.2)) (hvw : ∀ j ∈ ws, j ∈ own.map (·.2))
    {ρ : Tr} {sl : Sl} {h : PH} (A : At X.K ρ h H sl σ) (gd : Good X.K W σ ρ H (lcM fr tgt (own.map (·.2)) mit mc mb sl h) Q)
    (hRR : ∀ D C s' m H', Inv X pins σ H' s' → Q (.ref D) H' → s'.heap.Ns C m → FpOk X pins H' C → compPost (model X.prog X.w) X.A X.xe use Qf (.ref D) C (.ok .next) s') :
    wpAny (model X.prog X.w) X.A (comprehension (.ListComp elt (⟨tg, iter, ifs, 0⟩ :: gens) scope pos) scope X.env pos' (newList []) false (eval iter X.env) use) Qf X.xe s := by
  have hfree : ∀ y ∈ scope.names, y.2 = .free → ∃ c, X.env.cells.lookup y.1 = some c := fun y hy e => by
    rcases ok.free y hy e with k | k
    · exact I.ok.has _ (.inl k)
    · exact I.ok.has _ (.inr k)
  have first : TiR X.K W mit σ H (fun J H1 => ∃ ρ1 src h1, Tr.Le ρ ρ1 ∧ Keep ρ ρ1 H H1 ∧ At X.K ρ1 h1 H1 sl σ ∧ Fol X.K ρ1 H1 src J ∧ Good X.K W σ ρ1 H1 ((Rs.noEr (match src.len h1 with
      | some n => clGo tgt (own.map (·.2)) mc mb src sl n 0 [] h1
      | none => .bad)).bind fun l h => newF fr l h) Q) := by
    refine ⟨ρ, sl, h, A, ?_⟩
    unfold lcM at gd
    cases em : mit sl h with
    | er C as h' => rw [em] at gd; exact gd
    | bad => rw [em] at gd; exact gd
    | ok src h1 =>
      rw [em] at gd
      exact fun ρ1 H1 l1 k1 S1 J fol => ⟨ρ1, src, h1, l1, k1, A.later l1 k1 S1, fol, Good.later l1 k1 gd⟩
  refine wpAny_comprehension_free (use := use) rfl hs (closure_ok hfree) ok.kind (fun y hy e => by rw [ok.uniq y hy, e])
    (thn (hi.run pins s σ H _ I first) fun xv s1 hx => thn hx fun itv s2 h2 => ?_)
  obtain ⟨it, fp, tn, J, H2, e, I2, T, st2, f2, ρ1, src, h1, l1, k1, A1, fol, gd1⟩ := h2
  subst e
  refine wpAny_newObj_type (newEnv_comp ?_) (by show 0 ≤ sizeLine; decide)
  generalize hD : s2.heap.objs.size = D
  have hDn : H2 D = none := I2.hok.fresh (Nat.le_of_eq hD)
  cases en : src.len h1 with
  | none => rw [en] at gd1; exact gd1.elim
  | some n =>
  rw [en] at gd1
  simp only at gd1
  cases er : clGo tgt (own.map (·.2)) mc mb src sl n 0 [] h1 with
  | bad => rw [er] at gd1; exact gd1.elim
  | er C as h2 => rw [er] at gd1; exact gd1.elim
  | ok lend hend =>
  rw [er] at gd1
  simp only [Rs.noEr, Rs.bind_ok] at gd1
  -- the new list
  generalize hs3 : ({ s2 with heap := s2.heap.push { cls := .type "list", data := .seq ([] : List Value).toArray } } : Shared) = s3
  have I3 : Inv X pins σ (upd H2 D (.lst [])) s3 := by
    rw [← hs3]
    refine I2.laid (t' := s2.toks) (fun b o e => Heap.get?_push_of_some _ e) (Nat.le_of_eq hD) ⟨Nat.zero_le _, [], 0, .nil, ?_⟩
    rw [← hD]
    exact Heap.get?_push_size _ rfl
  have h3 : s3.heap = s2.heap.push { cls := .type "list", data := .seq ([] : List Value).toArray } := by rw [← hs3]
  have sz : ∀ b ∈ fp, b < s2.heap.objs.size := fun b hb => by
    obtain ⟨o, e, _⟩ := T.obj _ _ st2 b hb
    exact Heap.lt_size e
  have f3 : ∀ b ∈ fp, FpOk X pins (upd H2 D (.lst [])) b ∧ b < s3.heap.objs.size := fun b hb => by
    have hlt := sz b hb
    refine ⟨⟨?_, (f2 b hb).2⟩, by rw [h3, Heap.size_push]; exact Nat.lt_succ_of_lt hlt⟩
    rw [upd_ne (by rw [← hD]; exact Nat.ne_of_lt hlt)]
    exact (f2 b hb).1
  have st3 : tn 0 s3.heap := T.keep _ _ _ st2 fun b _ o e => by rw [h3]; exact Heap.get?_push_of_some _ e
  have I4 := block_start I3 ok hN f3
  have pg := hg s3 (upd H2 D (.lst [])) s3.heap.objs.size (cellsFrom (s3.heap.objs.size + 1) scope.names (cloFrom X.env.cells scope.names [])) fp
  have pt := ht s3 (upd H2 D (.lst [])) s3.heap.objs.size (cellsFrom (s3.heap.objs.size + 1) scope.names (cloFrom X.env.cells scope.names [])) fp
  have lv := he s3 (upd H2 D (.lst [])) s3.heap.objs.size (cellsFrom (s3.heap.objs.size + 1) scope.names (cloFrom X.env.cells scope.names [])) fp D
  show codeAny _ _ (.compStart (.ListComp elt (⟨tg, iter, ifs, 0⟩ :: gens) scope pos) 0 (.ref it) (.ref D) (compEnvC scope (cellsFrom (s3.heap.objs.size + 1) scope.names (cloFrom X.env.cells scope.names [])) s3.heap.objs.size X.env)) (compPost (model X.prog X.w) X.A X.xe use Qf (.ref D) s3.heap.objs.size) { s3 with heap := pushCells (s3.heap.push { cls := .type "dict", data := .dict #[] }) scope.names }
  have nfp : ∀ b ∈ fp, (upd H2 D (.lst [])) b = none := fun b hb => (f3 b hb).1.1
  generalize hce : compEnvC scope (cellsFrom (s3.heap.objs.size + 1) scope.names (cloFrom X.env.cells scope.names [])) s3.heap.objs.size X.env = ce at I4 pg pt lv ⊢
  have cL : ce.locals = s3.heap.objs.size := by subst hce; rfl
  generalize hs4 : ({ s3 with heap := pushCells (s3.heap.push { cls := .type "dict", data := .dict #[] }) scope.names } : Shared) = s4 at I4 ⊢
  have st4 : tn 0 s4.heap := T.keep _ _ _ st3 fun b _ o e => by rw [← hs4]; exact pushCells_keeps _ _ _ _ (Heap.get?_push_of_some _ e)
  have stat : ∀ b ∈ fp, FpOk (X.blk s3 (upd H2 D (.lst [])) scope ce fp) [] (upd H2 D (.lst [])) b := fun b hb =>
    ⟨nfp b hb, (I4.ok.exf b hb).1, I4.ok.exfs b hb, .inl hb, fun x c e => (I4.ok.exf b hb).2 x c e, fun p hp => absurd (show p ∈ ([] : List (Addr × Obj)) ++ [] from hp) (by simp)⟩
  have mv0 : MV ρ1 (ρ1.lay D) H2 (upd H2 D (.lst [])) := mv_lay hDn A1.sim
  have m0 : Mkg X.K D (ρ1.lay D) h1 (upd H2 D (.lst [])) [] := ⟨sim_lay hDn A1.sim, List.mem_cons_self, [], upd_same, .nil⟩
  have fol0 : Fol X.K (ρ1.lay D) (upd H2 D (.lst [])) src J := fun ρ' H' h' mv S i => fol ρ' H' h' (mv0.trans mv) S i
  have loop : codeAny (model X.prog X.w) X.A (.compLoop (.ListComp elt (⟨tg, iter, ifs, 0⟩ :: gens) scope pos) 0 (.ref it) (.ref D) ce) (compPost (model X.prog X.w) X.A X.xe use Qf (.ref D) s3.heap.objs.size) s4 := by
    refine lv_loop (X := X.blk s3 (upd H2 D (.lst [])) scope ce fp) (t := tg) (i := iter) (ifs := ifs) (gens := ⟨tg, iter, ifs, 0⟩ :: gens) (d := 0) (vs := own.map (·.2)) hc rfl hn pg pt lv rfl hvt hvw T st4 stat I4 m0 ((A1.rs.wipeM mv0).wipe _) fol0 er fun s6 H6 ρ6 I6 n6 kd m6 => ?_
    have I7 : Inv X pins σ H6 s6 := I3.call' (ch := fp) I6.os I6.base I6.hok I6.bare fun b hb => ⟨(f3 b hb).1.2.2.2.1, (f3 b hb).1.2.1, (f3 b hb).1.2.2.2.2.1, (f3 b hb).1.2.2.2.2.2⟩
    have nC : H6 s3.heap.objs.size = none := by
      have z : H6 ce.locals = none := I6.free
      rw [cL] at z
      exact z
    obtain ⟨m, hn, _⟩ := I6.loc
    have hn : s6.heap.Ns ce.locals m := hn
    rw [cL] at hn
    exact hRR D s3.heap.objs.size s6 m H6 I7 (made_ok hDn A1.sim kd m6 gd1) hn (I3.fpOk (Nat.le_refl _) nC)
  exact codeAny_compStart_list loop (T.self X.A 0 _ _ _ st4 loop)
end
end R
end

section
set_option Elab.async false
set_option linter.all false
set_option maxRecDepth 100000
set_option maxHeartbeats 4000000
/-! Dict comprehensions. -/
namespace R
open PySem PySem.Spec PyProof.Rows L2
section
variable {X : Cx} {W : WX} {tgt : Tg} {own : List (Str × Nat)}
def dcM (tgt : Tg) (own : List Nat) (mit : Sl → PH → Rs Src) (mc : Sl → PH → Rs Bool) (mk mv : M) : M := fun sl h => (mit sl h).bind fun src h =>
  (Rs.noEr (match src.len h with
    | some n => dcGo tgt own mc mk mv src sl n 0 [] h
    | none => .bad)).bind fun l h => newO (.dic l) h
theorem KPs.putK {K : PySem.W.Frag} {ρ : Tr} {H : Hp} {k : Key} {x : PV} {v : V} (r : RP K ρ H x v) {l : List (Key × PV)} {m : List (Key × V)} (q : KPs K ρ H l m) : KPs K ρ H (putKP l k x) (L2.putK m k v) := by
  have ea : ∀ {l : List (Key × PV)} {m : List (Key × V)}, KPs K ρ H l m → (l.any fun kv => decide (kv.1 = k)) = m.any fun kv => decide (kv.1 = k) := fun {l m} q => by
    induction q with
    | nil => rfl
    | @cons a b as bs h t ih => rw [List.any_cons, List.any_cons, h.1, ih]
  have em : ∀ {l : List (Key × PV)} {m : List (Key × V)}, KPs K ρ H l m → KPs K ρ H (l.map fun kv => if kv.1 = k then (kv.1, x) else kv) (m.map fun kv => if kv.1 = k then (kv.1, v) else kv) := fun {l m} q => by
    induction q with
    | nil => exact .nil
    | @cons a b as bs h t ih =>
      refine .cons ?_ ih
      show (if a.1 = k then (a.1, x) else a).1 = (if b.1 = k then (b.1, v) else b).1 ∧ RP K ρ H (if a.1 = k then (a.1, x) else a).2 (if b.1 = k then (b.1, v) else b).2
      rw [h.1]
      by_cases e : b.1 = k
      · rw [if_pos e, if_pos e]; exact ⟨rfl, r⟩
      · rw [if_neg e, if_neg e]; exact h
  have ap : ∀ {l : List (Key × PV)} {m : List (Key × V)}, KPs K ρ H l m → KPs K ρ H (l ++ [(k, x)]) (m ++ [(k, v)]) := fun {l m} q => by
    induction q with
    | nil => exact .cons ⟨rfl, r⟩ .nil
    | cons h t ih => exact .cons h ih
  unfold putKP L2.putK
  rw [ea q]
  cases m.any fun kv => decide (kv.1 = k) with
  | true => exact em q
  | false => exact ap q
theorem keyP_of {K : PySem.W.Frag} {ρ : Tr} {H : Hp} {x : PV} {v : V} {k : Key} (r : RP K ρ H x v) (e : keyP x = some k) : v = kV k := by
  cases x <;> first | (cases e; cases r; rfl) | cases e
/-- the dict that is made is written -/
theorem mv_dk {K : PySem.W.Frag} {ρ : Tr} {H : Hp} {D : Addr} {kvs : List (Key × V)} (hD : H D = some (.dK kvs)) {u : HO} : MV ρ ρ H (upd H D u) :=
  ⟨List.prefix_refl _, fun a o w e => by rw [upd_ne (fun z => by rw [z, hD] at e; cases e)]; exact e, fun a o e n nb => ⟨n, nb, by rw [upd_ne (fun z => by rw [z, hD] at e; cases e)]; exact e⟩⟩
theorem sim_dk {K : PySem.W.Frag} {ρ : Tr} {h : PH} {H : Hp} {D : Addr} {kvs : List (Key × V)} (hD : H D = some (.dK kvs)) (nD : D ∉ ρ) (S : Sim K ρ h H) {u : HO} : Sim K ρ h (upd H D u) := by
  refine S.move rfl (mv_dk (K := K) hD) (fun a m u e => ?_) (fun a ha => ?_) S.bd
  · rw [upd_ne (fun z => nD (by rw [← z]; exact m))]; exact e
  · obtain ⟨ws, e⟩ := S.bz a ha
    exact ⟨ws, by rw [upd_ne (fun z => by rw [z, hD] at e; cases e)]; exact e⟩
theorem dc_walk {mit : Sl → PH → Rs Src} {mc : Sl → PH → Rs Bool} {mk mv : M} (hx : ∀ i ∈ tgt.ix, i ∈ own.map (·.2)) {σ : L2.St} {ρ : Tr} {H : Hp} {sl : Sl} {h : PH} {Q : VK} (A : At X.K ρ h H sl σ) (gd : Good X.K W σ ρ H (dcM tgt (own.map (·.2)) mit mc mk mv sl h) Q) :
    tDc (TiR X.K W mit) (gR X.K tgt) (TbR X.K Wf mc) (T X.K Wf mk) (T X.K Wf mv) (own.map (·.2)) σ H Q := by
  refine ⟨ρ, sl, h, A, ?_⟩
  unfold dcM at gd
  cases em : mit sl h with
  | er C as h' => rw [em] at gd; exact gd
  | bad => rw [em] at gd; exact gd
  | ok src h1 =>
    rw [em] at gd
    simp only [Rs.bind_ok] at gd
    intro ρ1 H1 l1 k1 S1 J fol D hD
    have A1 := A.later l1 k1 S1
    have gd1 := Good.later l1 k1 gd
    have nD1 : D ∉ ρ1 := fun m => by
      obtain ⟨u, e, _⟩ := S1.mem m
      rw [hD] at e; cases e
    have nb1 : D ∉ ρ1.b := fun z => by
      obtain ⟨ws, e⟩ := S1.bz D z
      rw [hD] at e; cases e
    cases en : src.len h1 with
    | none => rw [en] at gd1; exact gd1.elim
    | some n =>
      rw [en] at gd1
      simp only at gd1
      cases er : dcGo tgt (own.map (·.2)) mc mk mv src sl n 0 [] h1 with
      | bad => rw [er] at gd1; exact gd1.elim
      | er C as h2 => rw [er] at gd1; exact gd1.elim
      | ok lend hend =>
        rw [er] at gd1
        simp only [Rs.noEr, Rs.bind_ok] at gd1
        have kd0 : KD D ρ1 ρ1 H1 (upd H1 D (.dK [])) := ⟨Tr.le_refl _, fun a o e n d => ⟨n, by rw [upd_ne d]; exact e⟩, fun a o u e => upd_same_of hD _ _ e⟩
        refine ⟨fun i m H2 => ∃ ρ2 h2 acc kvs, KD D ρ1 ρ2 H1 H2 ∧ D ∉ ρ2 ∧ MV ρ1 ρ2 H1 H2 ∧ Sim X.K ρ2 h2 H2 ∧ H2 D = some (.dK kvs) ∧ KPs X.K ρ2 H2 acc kvs ∧ dcGo tgt (own.map (·.2)) mc mk mv src sl m i acc h2 = .ok lend hend, ⟨n, ρ1, h1, [], [], kd0, nD1, .of (Tr.le_refl _) (Keep.new hD), S1.grow (upd_same_of hD), upd_same, .nil, er⟩, ?_⟩
        rintro i m H2 ⟨ρ2, h2, acc, kvs, kd, nD, mv2, S2, hl, ra, eq⟩
        have fin : (src.len h2).any (· ≤ i) = true → acc = lend → h2 = hend → J.stop i H2 ∧ Q (.ref D) H2 := fun hb e1 e2 => by
          obtain ⟨n', hs, hle⟩ := stopI hb
          refine ⟨(fol ρ2 H2 h2 mv2 S2 i).2 n' hs hle, ?_⟩
          subst e1 e2
          have k2 : Keep ρ1 (ρ2.add D) H1 H2 := by
            refine ⟨fun a o e n => ?_, fun a o u e => kd.fz _ _ _ e⟩
            have na : a ≠ D := fun z => by rw [z, hD] at e; cases e
            obtain ⟨q1, q2⟩ := kd.fx a o e n na
            exact ⟨fun z => (Tr.mem_add.mp z).elim q1 na, q2⟩
          have mv4 : MV ρ2 (ρ2.add D) H2 H2 := ⟨List.prefix_append _ _, fun _ _ _ e => e, fun a o e n nb => ⟨fun z => (Tr.mem_add.mp z).elim n fun z => (by rw [z, hl] at e; cases e), nb, e⟩⟩
          have S4 : Sim X.K (ρ2.add D) (h2 ++ [.dic acc]) H2 := by
            refine ⟨by simp [S2.len], ?_, fun m q a e e' => ?_, S2.bz, fun a ha z => ?_⟩
            · rw [Tr.add_l, List.nodup_append]
              exact ⟨S2.nd, by simp, fun x hx y hy => by
                have : y = D := by simpa using hy
                subst this
                exact fun z => nD (z ▸ hx)⟩
            · by_cases hn : m < h2.length
              · rw [List.getElem?_append_left hn] at e
                rw [Tr.add_l, List.getElem?_append_left (by rw [S2.len]; exact hn)] at e'
                exact (S2.obj m q a e e').move mv4 fun _ z => z
              · have hn2 : m = h2.length := by
                  have := (List.getElem?_eq_some_iff.mp e).1
                  rw [List.length_append, List.length_singleton] at this
                  omega
                subst hn2
                rw [List.getElem?_append_right (Nat.le_refl _), Nat.sub_self] at e
                rw [← S2.len, Tr.get_add] at e'
                simp at e e'
                subst e e'
                exact ⟨kvs, hl, KPs.move mv4 ra⟩
            · rcases Tr.mem_add.mp z with z | z
              · exact S2.bd a ha z
              · rw [z] at ha
                exact nb1 (by rw [← kd.l.b]; exact ha)
          exact gd1 (ρ2.add D) H2 (.ref D) (kd.l.trans (Tr.le_add _ _)) k2 S4 (.ref (by rw [← S2.len]; exact Tr.get_add ρ2 D))
        cases m with
        | zero =>
          simp only [dcGo] at eq
          split at eq
          · rename_i hb
            simp only [Rs.ok.injEq] at eq
            exact .inl (fin hb eq.1 eq.2)
          · cases eq
        | succ m =>
          simp only [dcGo] at eq
          cases eg : src.get h2 i with
          | none =>
            rw [eg] at eq
            simp only at eq
            split at eq
            · rename_i hb
              simp only [Rs.ok.injEq] at eq
              exact .inl (fin hb eq.1 eq.2)
            · cases eq
          | some it =>
            rw [eg] at eq
            simp only at eq
            obtain ⟨go, yl⟩ := (fol ρ2 H2 h2 mv2 S2 i).1 it eg
            refine .inr ⟨go, fun H' => ∃ ρ3 h3 acc3 kvs3, KD D ρ1 ρ3 H1 H' ∧ D ∉ ρ3 ∧ MV ρ1 ρ3 H1 H' ∧ Sim X.K ρ3 h3 H' ∧ H' D = some (.dK kvs3) ∧ KPs X.K ρ3 H' acc3 kvs3 ∧ dcGo tgt (own.map (·.2)) mc mk mv src sl m (i + 1) acc3 h3 = .ok lend hend,
              fun H' hN => ⟨m, Nat.lt_succ_self _, hN⟩, fun x H3 hy => ?_⟩
            obtain ⟨ext, ri⟩ := yl x H3 hy
            have kx : Keep ρ2 ρ2 H2 H3 := .of_same ext
            have S3 := S2.grow ext
            have mvx : MV ρ1 ρ2 H1 H3 := mv2.trans (.of (Tr.le_refl _) kx)
            have kd3 : KD D ρ1 ρ2 H1 H3 := kd.trans (.of (Tr.le_refl _) kx)
            have rs3 : RS X.K ρ2 H3 sl σ := A1.rs.wipeM mvx
            cases ea : asg tgt it h2 (wipeS sl (own.map (·.2))) with
            | none => rw [ea] at eq; cases eq
            | some s2 =>
              rw [ea] at eq
              simp only at eq
              refine ⟨ρ2, h2, wipeS sl (own.map (·.2)), it, s2, ⟨S3, rs3.wipe _⟩, ri, ea, fun vs' rs' => ?_⟩
              refine ⟨by rw [setAllV_wipe _ _ _ _ hx]; exact wipe_wipe _ _, ρ2, s2, h2, ⟨S3, rs'⟩, ?_⟩
              cases ec : mc s2 h2 with
              | er C as h' => rw [ec] at eq; cases eq
              | bad => rw [ec] at eq; cases eq
              | ok b h3 =>
                rw [ec] at eq
                simp only [Rs.bind_ok] at eq
                intro ρ3 H4 l3 k3 S4
                have D3 : H3 D = some (.dK kvs) := ext _ _ hl
                obtain ⟨nD3, D4⟩ := k3.fix D _ D3 nD
                have kd4 : KD D ρ1 ρ3 H1 H4 := kd3.trans (.of l3 k3)
                have mv4 : MV ρ1 ρ3 H1 H4 := mvx.trans (.of l3 k3)
                have ra4 : KPs X.K ρ3 H4 acc kvs := KPs.move (MV.trans (.of (Tr.le_refl _) kx) (.of l3 k3)) ra
                cases b with
                | false =>
                  simp only at eq
                  rw [if_neg Bool.false_ne_true]
                  exact ⟨ρ3, h3, acc, kvs, kd4, nD3, mv4, S4, D4, ra4, eq⟩
                | true =>
                  simp only at eq
                  rw [if_pos rfl]
                  refine ⟨ρ3, s2, h3, ⟨S4, rs'.mono l3 k3⟩, ?_⟩
                  cases ek : mk s2 h3 with
                  | er C as h' => rw [ek] at eq; cases eq
                  | bad => rw [ek] at eq; cases eq
                  | ok y h4 =>
                    rw [ek] at eq
                    simp only [Rs.bind_ok] at eq
                    intro ρ4 H5 v l4 k4 S5 ry
                    obtain ⟨nD4, D5⟩ := k4.fix D _ D4 nD3
                    refine ⟨ρ4, s2, h4, ⟨S5, (rs'.mono l3 k3).mono l4 k4⟩, ?_⟩
                    cases ev : mv s2 h4 with
                    | er C as h' => rw [ev] at eq; cases eq
                    | bad => rw [ev] at eq; cases eq
                    | ok z h5 =>
                      rw [ev] at eq
                      simp only [Rs.bind_ok] at eq
                      intro ρ5 H6 w l5 k5 S6 rz
                      obtain ⟨nD5, D6⟩ := k5.fix D _ D5 nD4
                      cases hk : keyP y with
                      | none => rw [hk] at eq; cases eq
                      | some k =>
                        rw [hk] at eq
                        simp only at eq
                        split at eq
                        · rename_i hz
                          have hlen : acc.length = kvs.length := Paired.length ra4
                          have ra6 : KPs X.K ρ5 H6 acc kvs := KPs.move (MV.trans (.of l4 k4) (.of l5 k5)) ra4
                          have kd6 : KD D ρ1 ρ5 H1 H6 := (kd4.trans (.of l4 k4)).trans (.of l5 k5)
                          have kdp : KD D ρ5 ρ5 H6 (upd H6 D (.dK (L2.putK kvs k w))) := ⟨Tr.le_refl _, fun a o e n d => ⟨n, by rw [upd_ne d]; exact e⟩, fun a o u e => by rw [upd_ne (fun z => by rw [z, D6] at e; cases e)]; exact e⟩
                          exact ⟨kvs, k, keyP_of ry hk, D6, by rw [← hlen, ← sizeL_eq]; exact hz, ρ5, h5, putKP acc k z, L2.putK kvs k w, kd6.trans kdp, nD5, ((mv4.trans (.of l4 k4)).trans (.of l5 k5)).trans (mv_dk (K := X.K) D6), sim_dk D6 nD5 S6, upd_same, KPs.move (mv_dk (K := X.K) D6) (KPs.putK rz ra6), eq⟩
                        · cases eq
end
end R
end

section
set_option Elab.async false
set_option linter.all false
set_option maxRecDepth 100000
set_option maxHeartbeats 4000000
/-! Keyword calls; dict displays. -/
namespace R
open PySem PySem.Spec PyProof.Rows L2
section
variable {P : Pg} {g : GE} {F : FF} {fad : Str → Addr} {fdo : Str → FuncData} {pso : Str → List Str}
variable {X : Cx} {k : Nat} {x : Str} {W : WX} {ma : M} {ms : Ms} {p pos : Pos} {kws : List Keyword} {ks : List Str}
theorem k_nil : PK X [] (TsR X.K W fun _ h => .ok [] h) := ⟨fun pos pins s σ H Q I ⟨ρ, sl, h, A, g⟩ => pk_nil.run pos pins s σ H Q I (g.here A .nil)⟩
theorem k_cons {nm : Option Str} {e : Expr} {kpos : Pos} (he : PE X e (T X.K W ma)) (hr : PK X kws (TsR X.K W ms)) : PK X (⟨nm, e, kpos⟩ :: kws) (TsR X.K W fun sl h => (ma sl h).bind fun x h => (ms sl h).bind fun r h => .ok (x :: r) h) :=
  ⟨fun pos pins s σ H Q I ⟨ρ, sl, h, A, g⟩ => (pk_cons he hr).run pos pins s σ H Q I (TsR.step A g fun ρ1 H1 h1 x v l k A1 r g1 => TsR.stepL A1 g1 fun ρ2 H2 h2 y u l2 k2 A2 r2 g2 => g2.here A2 (.cons (r.mono l2 k2) r2))⟩
theorem RPs.perm {K : PySem.W.Frag} {ρ : Tr} {H : Hp} {l : List PV} {vs : List V} (r : RPs K ρ H l vs) : ∀ is : List Nat, RPs K ρ H (is.map fun i => l.getD i .non) (is.map fun i => vs.getD i .non)
  | [] => .nil
  | i :: is => .cons (by
    show RP K ρ H (l.getD i .non) (vs.getD i .non)
    rw [List.getD_eq_getElem?_getD, List.getD_eq_getElem?_getD]
    cases e : l[i]? with
    | none =>
      have : vs[i]? = none := by
        rw [List.getElem?_eq_none_iff] at e ⊢
        rw [← r.length]; exact e
      rw [this]; exact .non
    | some y =>
      obtain ⟨v, h1, h2⟩ := r.get e
      rw [h1]; exact h2) (RPs.perm r is)
theorem n_kw (C : Ct P g fad fdo pso F k X W) {ps : List Str} {perm : List Nat} (hg : g x = some (.fn ps)) (hG : Gl X x) (hdb : (x == ("__debug__" : Str)) = false)
    (kb : ∃ gU, KBn X.K (fdo x) (pso x) 0 ks gU (fun _ zs => perm.map fun i => zs.getD i .non)) (hkw : PK X kws (TsR X.K W ms)) (hall : (backToKw pos (keywordEach kws X.env)).all (·.1.isSome) = true) (hks : (backToKw pos (keywordEach kws X.env)).filterMap (·.1) = ks)
    (hpl : ((backTo pos (starEach [] X.env)).any (·.1) || (backToKw pos (keywordEach kws X.env)).any (·.1.isNone)) = false) :
    PE X (.Call (.Name x p) [] kws pos) (T X.K W fun sl h => (ms sl h).bind fun l h => if l.length = ks.length then F x (perm.map fun i => l.getD i .non) h else .bad) := by
  refine ⟨fun pins s σ H Q I ⟨ρ, sl, h, A, gd⟩ => ?_⟩
  obtain ⟨hm, hk, _⟩ := C.fs.fn x ps hg
  obtain ⟨gU, kb⟩ := kb
  refine wpAny_Call_Name_kw (ld_glob I hG hm ?_ hdb)
  refine PySem.W.callWith_KW0 (h₀ := X.base) I.ok.mod.kin hk hall (thn (hkw.run pos pins s σ H (fun zs H1 => zs.length = ks.length ∧ spF X.K F x (perm.map fun i => zs.getD i .non) H1 Q (WE W σ)) I (T.stepL A gd fun ρ1 H1 h1 l v l1 k1 A1 r g1 => ?_)) fun ws s1 ⟨zs, H1, I1, rz, hl, q⟩ => ⟨I1.kIn, ?_⟩) hpl
  · split at g1
    · rename_i hl
      exact ⟨by rw [← r.length]; exact hl, sp_use A1 (r.perm perm) g1⟩
    · exact g1.elim
  · rw [hks]
    have r2 := kb.rel (vs := []) (us := []) .nil rz
    refine wpAny_call (codeAny_mono ((C.fd x).run X.A X.stack s1 H1 ⟨[], ks.zip ws⟩ (gU [] ws) _ Q (WE W σ) (C.room.mono (Nat.le_succ _)) C.gd I1.env0 (kb.to s1 [] ws I1.kIn rfl (rz.length.symm.trans hl)) r2 q) fun r s' hq => ?_)
    cases r with
    | error e => exact passAt C.tk σ pins H1 s1 e s' I1 hq
    | ok fl =>
      cases fl with
      | ret u => exact I1.after hq
      | next => exact False.elim hq
      | brk => exact False.elim hq
      | cont => exact False.elim hq

/-! ### dict displays -/
/-- the values of a display, with keys that are texts -/
structure PD (X : Cx) (W : WX) (pos : Pos) (keys : List (Option Expr)) (vs : List Expr) (ks : List Str) (m : Ms) : Prop where
  run : ∃ trs, PPs X pos keys vs trs ∧ ∀ σ H Q, TsR X.K W m σ H (fun xs H' => xs.length = ks.length → Q ((ks.map V.str).zip xs) H') → tPairs trs σ H Q
theorem d_nil : PD X W pos [] [] [] fun _ h => .ok [] h := ⟨[], pps_nil, fun σ H Q ⟨ρ, sl, h, A, g⟩ => g.here A .nil rfl⟩
theorem d_cons {e : Expr} {z : Str} {j : Nat} {p2 : Pos} {keys : List (Option Expr)} {vs : List Expr} (he : PE X e (T X.K W ma)) (hr : PD X W pos keys vs ks ms) : PD X W pos (some (.Constant (.str z) j p2) :: keys) (e :: vs) (z :: ks) fun sl h => (ma sl h).bind fun x h => (ms sl h).bind fun r h => .ok (x :: r) h := by
  obtain ⟨trs, h1, h2⟩ := hr.run
  refine ⟨_, pps_cons pe_str he h1, fun σ H Q ⟨ρ, sl, h, A, g⟩ => ?_⟩
  show T X.K W ma σ H fun y H2 => tPairs trs σ H2 fun ps H3 => Q ((V.str z, y) :: ps) H3
  refine TsR.step A g fun ρ1 H1 h1 x v l k A1 r g1 => h2 _ _ _ (TsR.stepL A1 g1 fun ρ2 H2 h2 ys us l2 k2 A2 r2 g2 hl => ?_)
  exact g2.here A2 (.cons (r.mono l2 k2) r2) (by rw [List.length_cons, List.length_cons, hl])
theorem putK_new {k : Key} {v : V} {l : List (Key × V)} (h : ∀ p ∈ l, p.1 ≠ k) : putK l k v = l ++ [(k, v)] := by
  have e : (l.any fun kv => decide (kv.1 = k)) = false := by
    rw [List.any_eq_false]
    exact fun p hp => by simpa using h p hp
  unfold putK
  rw [e]
  rfl
theorem merge_new : ∀ (m l : List (Key × V)), (∀ p ∈ l, ∀ q ∈ m, p.1 ≠ q.1) → (m.map (·.1)).Nodup → mergeK l m = l ++ m
  | [], l, _, _ => (List.append_nil l).symm
  | (k, v) :: m, l, h, hn => by
    rw [List.map_cons, List.nodup_cons] at hn
    show mergeK (putK l k v) m = _
    rw [putK_new fun p hp => h p hp (k, v) List.mem_cons_self, merge_new m _ (fun p hp q hq => ?_) hn.2, List.append_assoc]
    · rfl
    · rcases List.mem_append.mp hp with hp | hp
      · exact h p hp q (List.mem_cons_of_mem _ hq)
      · have : p = (k, v) := by simpa using hp
        subst this
        exact fun z => hn.1 (by rw [z]; exact List.mem_map_of_mem hq)
theorem RPs.keyed {K : PySem.W.Frag} {ρ : Tr} {H : Hp} : ∀ (ks : List Key) {l : List PV} {vs : List V}, RPs K ρ H l vs → KPs K ρ H (ks.zip l) (ks.zip vs)
  | [], _, _, _ => .nil
  | _ :: _, _, _, .nil => .nil
  | k :: ks, _, _, .cons a b => .cons ⟨rfl, a⟩ (RPs.keyed ks b)
theorem zip_keys : ∀ (ks : List Str) (xs : List V), (ks.map V.str).zip xs = ((ks.map (Sum.inr : Str → Key)).zip xs).map fun kv => (kV kv.1, kv.2)
  | [], _ => rfl
  | _ :: _, [] => rfl
  | k :: ks, x :: xs => by
    simp only [List.map_cons, List.zip_cons_cons]
    rw [zip_keys ks xs]
    rfl
theorem n_dic {keys : List (Option Expr)} {vs : List Expr} (hd : PD X W pos keys vs ks ms) (hall : keys.all (·.isSome) = true) (hl : keys.length = vs.length) (h0 : keys ≠ []) (h15 : keys.length ≤ 15) (hks : ks.length ≤ 15) (hnd : ks.Nodup) :
    PE X (.Dict keys vs pos) (T X.K W fun sl h => (ms sl h).bind fun l h => if ks.length = l.length then newO (.dic ((ks.map Sum.inr).zip l)) h else .bad) := by
  obtain ⟨trs, h1, h2⟩ := hd.run
  refine PE.weak (pe_disp h1 hall hl h0 h15) fun σ H Q ⟨ρ, sl, h, A, gd⟩ p hp => h2 _ _ _ ?_
  have A0 : At X.K ρ h (upd H p (.dK [])) sl σ := ⟨A.sim.grow (upd_same_of hp), A.rs.mono (Tr.le_refl _) (Keep.new hp)⟩
  have np : p ∉ ρ := fun m => by
    obtain ⟨u, e, _⟩ := A.sim.mem m
    rw [hp] at e; cases e
  refine ⟨ρ, sl, h, A0, ?_⟩
  dsimp only at gd
  cases e : ms sl h with
  | bad => rw [e] at gd; exact gd
  | er C as h' => rw [e] at gd; exact fun ρ' H' d gs l k S e1 e2 => gd ρ' H' d gs l ((Keep.new hp).trans k) S e1 e2
  | ok l h' =>
    rw [e] at gd
    simp only [Rs.bind_ok] at gd
    intro ρ2 H2 xs l2 k2 S2 r2 hxl
    split at gd
    · rename_i hkl
      obtain ⟨np2, hp2⟩ := k2.fix p _ upd_same np
      have npb : p ∉ ρ2.b := fun z => by
        rw [l2.b] at z
        obtain ⟨ws, e⟩ := A.sim.bz p z
        rw [hp] at e; cases e
      refine ⟨hp2, (ks.map Sum.inr).zip xs, ?_, ?_, ?_⟩
      · exact zip_keys ks xs
      · rw [List.length_zip, List.length_map]; omega
      · have em : mergeK [] ((ks.map Sum.inr).zip xs) = (ks.map Sum.inr).zip xs := by
          rw [merge_new _ [] (fun p hp => by cases hp), List.nil_append]
          rw [List.map_fst_zip (by rw [List.length_map, hxl] <;> exact Nat.le_refl _)]
          exact List.pairwise_map.mpr (hnd.imp fun n z => n (Sum.inr.inj z))
        rw [em]
        have hup : ∀ a u, H2 a = some u → a ≠ p → (upd H2 p (.dK ((ks.map Sum.inr).zip xs))) a = some u := fun a u e n => by rw [upd_ne n]; exact e
        have mv : MV ρ2 (ρ2.add p) H2 (upd H2 p (.dK ((ks.map Sum.inr).zip xs))) := by
          refine ⟨List.prefix_append _ _, fun a o u e => ?_, fun a o e n nb => ?_⟩
          · exact hup _ _ e (fun z => by rw [z, hp2] at e; cases e)
          · have na : a ≠ p := fun z => by rw [z, hp2] at e; cases e
            exact ⟨fun z => (Tr.mem_add.mp z).elim n na, nb, hup _ _ e na⟩
        have S3 : Sim X.K (ρ2.add p) (h' ++ [.dic ((ks.map Sum.inr).zip l)]) (upd H2 p (.dK ((ks.map Sum.inr).zip xs))) := by
          refine ⟨by simp [S2.len], ?_, fun n q a e e' => ?_, fun a ha => ?_, fun a ha m => ?_⟩
          · rw [Tr.add_l, List.nodup_append]
            exact ⟨S2.nd, by simp, fun x hx y hy => by
              have : y = p := by simpa using hy
              subst this
              exact fun z => np2 (z ▸ hx)⟩
          · by_cases hn : n < h'.length
            · rw [List.getElem?_append_left hn] at e
              rw [Tr.add_l, List.getElem?_append_left (by rw [S2.len]; exact hn)] at e'
              exact (S2.obj n q a e e').move mv fun u hu => hup _ _ hu fun z => np2 (z ▸ (List.mem_of_getElem? e' : a ∈ ρ2.l))
            · have hn2 : n = h'.length := by
                have := (List.getElem?_eq_some_iff.mp e).1
                rw [List.length_append, List.length_singleton] at this
                omega
              subst hn2
              rw [List.getElem?_append_right (Nat.le_refl _), Nat.sub_self] at e
              rw [← S2.len, Tr.get_add] at e'
              simp at e e'
              subst e e'
              exact ⟨_, upd_same, RPs.keyed _ (r2.move mv)⟩
          · obtain ⟨ws, e⟩ := S2.bz a ha
            exact ⟨ws, hup _ _ e fun z => npb (z ▸ ha)⟩
          · rcases Tr.mem_add.mp m with m | e
            · exact S2.bd a ha m
            · exact npb (e ▸ ha)
        have K3 : Keep ρ (ρ2.add p) H (upd H2 p (.dK ((ks.map Sum.inr).zip xs))) := by
          refine ⟨fun a o e n => ?_, fun a o u e => ?_⟩
          · have na : a ≠ p := fun z => by rw [z, hp] at e; cases e
            obtain ⟨q1, q2⟩ := k2.fix a o (upd_same_of hp _ _ e) n
            exact ⟨fun z => (Tr.mem_add.mp z).elim q1 na, hup _ _ q2 na⟩
          · have na : a ≠ p := fun z => by rw [z, hp] at e; cases e
            exact hup _ _ (k2.frz _ _ _ (upd_same_of hp _ _ e)) na
        exact gd _ _ (.ref p) (l2.trans (Tr.le_add _ _)) K3 S3 (.ref (by rw [← S2.len]; exact Tr.get_add ρ2 p))
    · exact gd.elim
end
end R
end

section
set_option Elab.async false
set_option linter.all false
set_option maxRecDepth 100000
set_option maxHeartbeats 8000000
/-! Expressions: what is compiled is so. -/
namespace R
open PySem PySem.Spec PyProof.Rows L2
section
variable {P : Pg} {cp : CP} {F : FF} {fad : Str → Addr} {fdo : Str → FuncData} {pso : Str → List Str} {k : Nat}
/-- the keyword calls are right -/
def KwOk (cp : CP) (fdo : Str → FuncData) (pso : Str → List Str) (K : PySem.W.Frag) : Prop := ∀ r ∈ cp.kwc, ∃ gU, KBn K (fdo r.1) (pso r.1) 0 r.2.1 gU (fun _ zs => r.2.2.map fun i => zs.getD i .non)
/-- the walk's context, with the text's side -/
structure Cs (P : Pg) (cp : CP) (fad : Str → Addr) (fdo : Str → FuncData) (pso : Str → List Str) (F : FF) (k : Nat) (X : Cx) (W : WX) : Prop where
  c : Ct P cp.g fad fdo pso F k X W
  kw : KwOk cp fdo pso X.K
def Cs.SE (P : Pg) (cp : CP) (fad : Str → Addr) (fdo : Str → FuncData) (pso : Str → List Str) (F : FF) (k : Nat) (n : Nat) : Prop :=
  ∀ (X : Cx) (W : WX) (fr : Bool) (sc : Scope) (e : Expr) (e' : E), Cs P cp fad fdo pso F k X W → X.env.scope = sc → cE cp X.N n fr sc e = some e' → Pr X W e (ev P F e')
def Cs.SEs (P : Pg) (cp : CP) (fad : Str → Addr) (fdo : Str → FuncData) (pso : Str → List Str) (F : FF) (k : Nat) (n : Nat) : Prop :=
  ∀ (X : Cx) (W : WX) (fr : Bool) (sc : Scope) (es : List Expr) (es' : List E), Cs P cp fad fdo pso F k X W → X.env.scope = sc → cEs cp X.N n fr sc es = some es' → PA X es (TsR X.K W (evs P F es')) ∧ (argsOk es = true → CA X W es (evs P F es')) ∧
    (noStar es = true → ∀ pos keys ks, cKeys keys = some ks → keys.length = es.length → PD X W pos keys es ks (evs P F es'))
def Cs.SB (P : Pg) (cp : CP) (fad : Str → Addr) (fdo : Str → FuncData) (pso : Str → List Str) (F : FF) (k : Nat) (n : Nat) : Prop :=
  ∀ (X : Cx) (W : WX) (op : BoolOp) (sc : Scope) (es : List Expr) (e' : E), Cs P cp fad fdo pso F k X W → X.env.scope = sc → cB cp X.N n op sc es = some e' → PrB X W op es (ev P F e')
def Cs.SKw (P : Pg) (cp : CP) (fad : Str → Addr) (fdo : Str → FuncData) (pso : Str → List Str) (F : FF) (k : Nat) (n : Nat) : Prop :=
  ∀ (X : Cx) (W : WX) (sc : Scope) (ks : List Keyword) (es' : List E), Cs P cp fad fdo pso F k X W → X.env.scope = sc → cKws cp X.N n sc ks = some es' → PK X ks (TsR X.K W (evs P F es'))
def Cs.SIf (P : Pg) (cp : CP) (fad : Str → Addr) (fdo : Str → FuncData) (pso : Str → List Str) (F : FF) (k : Nat) (n : Nat) : Prop :=
  ∀ (X : Cx) (W : WX) (sc : Scope) (es : List Expr) (e' : E), Cs P cp fad fdo pso F k X W → X.env.scope = sc → cIfs cp X.N n sc es = some e' → PTs X es (TbR X.K W (bT (ev P F e')))
def Cs.SIt (P : Pg) (cp : CP) (fad : Str → Addr) (fdo : Str → FuncData) (pso : Str → List Str) (F : FF) (k : Nat) (n : Nat) : Prop :=
  ∀ (X : Cx) (W : WX) (tg : Expr) (sc : Scope) (e : Expr) (e' : E), Cs P cp fad fdo pso F k X W → X.env.scope = sc → cIt cp X.N n (isTupE tg) sc e = some e' → PI X tg e (TiR X.K W (evIt P F e')) ∧ ∀ env x, foldedSetIterable e env x = pure x
def Cs.SC (P : Pg) (cp : CP) (fad : Str → Addr) (fdo : Str → FuncData) (pso : Str → List Str) (F : FF) (k : Nat) (n : Nat) : Prop :=
  ∀ (X : Cx) (sc scope : Scope) (elt : Expr) (gs gens : List Comprehension) (e' : E) (d : Nat) (pos : Pos) (D : Addr), Cs P cp fad fdo pso F k X Wf → X.env.scope = sc → Tok0 X scope → X.xe = (fun _ _ => False) → gens.drop (d + 1) = gs → cCl cp X.N n sc scope elt gs = some e' →
    ∃ nx, Nxt gens d nx ∧ LV X D (slotsOf e') (evC P F e') (TailP X.prog X.w X.A (fun _ _ => False) elt gens scope pos d (.ref D) X.env nx)
variable {X : Cx} {W : WX}
theorem isVis_vis {sc : Scope} {x : Str} (h : isVis sc x = true) (hs : X.env.scope = sc) : Vis X.env.scope x := by
  unfold isVis at h
  rw [hs]
  split at h <;> first | exact .inl (by assumption) | exact .inr (.inl (by assumption)) | exact .inr (.inr (by assumption)) | cases h
theorem isGlb_gl {sc : Scope} {x : Str} (h : isGlb sc x = true) (hs : X.env.scope = sc) : Gl X x := by
  unfold isGlb at h
  show X.env.scope.names.lookup x = some .globalImplicit
  rw [hs]
  split at h <;> first | assumption | cases h
theorem dbg_no {x : Str} (h : ¬ dbg x = true) : (x == ("__debug__" : Str)) = false ∧ (x == ("__classdict__" : Str)) = false ∧ (x == ("__name__" : Str)) = false := by
  unfold dbg at h
  simp only [Bool.or_eq_true, not_or, Bool.not_eq_true] at h
  exact ⟨h.1.1, h.1.2, h.2⟩
theorem noSup_base {o : Expr} {a : Str} {env : Env} {w : Sem Value} (h : noSup o = true) : attributeBase o a env w = w := by
  unfold attributeBase
  split
  · cases h
  · rfl
theorem noStar_each : ∀ {es : List Expr} {env : Env}, noStar es = true → ∀ {pos : Pos}, (backTo pos (starEach es env)).any (·.1) = false
  | [], _, _, _ => rfl
  | e :: es, env, h, pos => by
    unfold noStar at h
    rw [List.all_cons, Bool.and_eq_true] at h
    have h1 : isStar e = false := by simpa using h.1
    have e1 : starEach (e :: es) env = (false, eval e env) :: starEach es env := by cases e <;> first | rfl | cases h1
    rw [e1]
    show (false || (backTo pos (starEach es env)).any (·.1)) = false
    rw [noStar_each h.2] <;> rfl
theorem noStar_form {es : List Expr} {env : Env} {pos : Pos} (h : noStar es = true) (hl : es.length < 30) : methodCallForm es.length (backTo pos (starEach es env)) [] = true := by
  have h1 := noStar_each (env := env) h (pos := pos)
  unfold methodCallForm
  have h2 : (backTo pos (starEach es env)).all (fun x => !x.1) = true := by
    rw [List.any_eq_false] at h1
    rw [List.all_eq_true]
    exact fun x hx => by simpa using h1 x hx
  rw [h2]
  simp [hl]
theorem noStar_cons {e : Expr} {es : List Expr} (h : noStar (e :: es) = true) : isStar e = false ∧ noStar es = true := by
  unfold noStar at h
  rw [List.all_cons, Bool.and_eq_true] at h
  exact ⟨by simpa using h.1, h.2⟩
theorem cE_noSet {N : List Str} {n : Nat} {fr : Bool} {sc : Scope} {e : Expr} {e' : E} (h : cE cp N n fr sc e = some e') : noSetE e = true ∧ noSliceE e = true ∧ isStar e = false := by
  cases n with
  | zero => simp only [cE, reduceCtorEq] at h
  | succ n =>
    cases e <;> first | exact ⟨rfl, rfl, rfl⟩ | (simp only [cE, reduceCtorEq] at h)
theorem cE_folded {N : List Str} {n : Nat} {fr : Bool} {sc : Scope} {e : Expr} {e' : E} (h : cE cp N n fr sc e = some e') (env : Env) (x : Value) : foldedSetIterable e env x = pure x := by
  have := (cE_noSet h).1
  cases e <;> first | rfl | cases this
theorem cName_ok (C : Cs P cp fad fdo pso F k X W) {sc : Scope} (hs : X.env.scope = sc) {x : Str} {p : Pos} {e' : E} (h : cName cp X.N sc x = some e') : PE X (.Name x p) (T X.K W (ev P F e')) := by
  unfold cName at h
  split at h
  · cases h
  · rename_i hd
    obtain ⟨d1, d2, d3⟩ := dbg_no hd
    split at h
    · rename_i hv
      rw [Option.map_eq_some_iff] at h
      obtain ⟨i, h1, rfl⟩ := h
      have := n_var (W := W) (pos := p) (ixOf_get h1) (isVis_vis hv hs) d1 d2
      exact PE.weak this fun σ H Q q => by
        simpa only [ev] using q
    · split at h
      · rename_i hg
        cases eg : cp.g x with
        | none => rw [eg] at h; cases h
        | some gk =>
          rw [eg] at h
          cases gk with
          | con v =>
            simp only [Option.some.injEq] at h
            subst h
            obtain ⟨u, V, h1, h2, h3⟩ := C.c.fs.con x v eg
            exact PE.weak (n_con (W := W) (pe_glob (isGlb_gl hg hs) h1 h2 d1) h3) fun σ H Q q => by simpa only [ev] using q
          | fn ps =>
            simp only [Option.some.injEq] at h
            subst h
            obtain ⟨h1, h2, _⟩ := C.c.fs.fn x ps eg
            have h3 := C.c.fs.glf x ps eg
            exact PE.weak (n_con (W := W) (x := .glo x) (pe_glob (v := .ref (fad x)) (isGlb_gl hg hs) h1 rfl d1) fun ρ H => by rw [← h3]; exact .glo) fun σ H Q q => by simpa only [ev] using q
          | cls => cases h
          | free => cases h
      · cases h
theorem cCls_ok (C : Cs P cp fad fdo pso F k X W) {sc : Scope} (hs : X.env.scope = sc) {e : Expr} {c : Str} (h : cCls cp sc e = some c) : isStar e = false ∧ PE X e (tC (clV X.K c)) := by
  unfold cCls at h
  split at h
  · rename_i x p
    split at h
    · rename_i hc
      rw [Bool.and_eq_true] at hc
      obtain ⟨d1, _, d3⟩ := dbg_no (x := x) (by simpa using hc.2)
      have hG := isGlb_gl hc.1 hs
      cases eg : cp.g x with
      | none => rw [eg] at h; cases h
      | some gk =>
        rw [eg] at h
        cases gk with
        | cls =>
          simp only at h
          split at h
          · rename_i hb
            cases h
            refine ⟨rfl, ?_⟩
            have hb : btOf c = none := by simpa using hb
            unfold clV
            rw [hb]
            exact pe_glob hG (C.c.fs.cls c eg) rfl d1
          · cases h
        | free =>
          simp only at h
          split at h
          · rename_i hb
            cases h
            refine ⟨rfl, ?_⟩
            obtain ⟨b, hb⟩ := Option.isSome_iff_exists.mp hb
            have hn : c ≠ "__name__" := fun z => by rw [z] at d3; revert d3; decide
            have hboot : bootBuiltins c = some (.type b) := by
              unfold btOf at hb
              repeat' split at hb
              all_goals first | (cases hb; rename_i ex; rw [ex]; decide +kernel) | cases hb
            unfold clV
            rw [hb]
            exact pe_bltn hG (C.c.fs.free c eg) hboot rfl hn d1
          · cases h
        | con v => cases h
        | fn ps => cases h
    · cases h
  · cases h
theorem cClss_one {sc : Scope} {e : Expr} {cs : List Str} (hn : isTupE e = false) (h : cClss cp sc e = some cs) : ∃ c, cs = [c] ∧ cCls cp sc e = some c := by
  cases e <;> first | (cases hn; done) | (simp only [cClss, Option.map_eq_some_iff] at h; obtain ⟨c, h1, rfl⟩ := h; exact ⟨c, rfl, h1⟩)
theorem mapM_pair (C : Cs P cp fad fdo pso F k X W) {sc : Scope} (hs : X.env.scope = sc) : ∀ {es : List Expr} {cs : List Str}, es.mapM (cCls cp sc) = some cs → Paired (fun c e => isStar e = false ∧ PE X e (tC (clV X.K c))) cs es
  | [], cs, h => by
    simp only [List.mapM_nil, Option.pure_def, Option.some.injEq] at h
    subst h
    exact .nil
  | e :: es, cs, h => by
    rw [List.mapM_cons] at h
    simp only [Option.pure_def, Option.bind_eq_bind, Option.bind_eq_some_iff, Option.some.injEq] at h
    obtain ⟨c, h1, cs', h2, rfl⟩ := h
    exact .cons (cCls_ok C hs h1) (mapM_pair C hs h2)
/-- the context of a comprehension's block -/
theorem Cs.blk (C : Cs P cp fad fdo pso F k X W) (s : Shared) (H : Hp) (scope : Scope) (cenv : Env) (fp : List Addr) : Cs P cp fad fdo pso F k (X.blk s H scope cenv fp) Wf :=
  ⟨⟨C.c.fs, C.c.fd, C.c.fb, C.c.room, C.c.gd, C.c.calm, C.c.nd, fun u s' ⟨_, _, _, _, _, _, _, _, _, _, _, _, _, _, _, _, z⟩ => z⟩, C.kw⟩
theorem tok_blk (X : Cx) (s : Shared) (H : Hp) (scope : Scope) (C : Addr) (cl : List (Str × Addr)) (fp : List Addr) : Tok0 (X.blk s H scope (compEnvC scope cl C X.env) fp) scope := by
  refine ⟨fun x h => ?_⟩
  unfold isLoc at h
  have hsc : (compEnvC scope cl C X.env).scope = relS scope X.env.scope := rfl
  show (Loc (compEnvC scope cl C X.env).scope x) ∧ ((scope.names.lookup x == some .cell) = true ∨ (compEnvC scope cl C X.env).scope.names.lookup x = some .local)
  rw [hsc]
  split at h
  · rename_i hx
    have := lookup_relS_keep (sc := X.env.scope) (k := .local) (by decide) hx
    exact ⟨.inl this, .inr this⟩
  · rename_i hx
    have := lookup_relS_keep (sc := X.env.scope) (k := .cell) (by decide) hx
    exact ⟨.inr this, .inl (by rw [hx]; decide)⟩
  · cases h
end
end R
end

section
set_option Elab.async false
set_option linter.all false
set_option maxRecDepth 100000
set_option maxHeartbeats 8000000
/-! The steps. -/
namespace R
open PySem PySem.Spec PyProof.Rows L2
section
variable {P : Pg} {cp : CP} {F : FF} {fad : Str → Addr} {fdo : Str → FuncData} {pso : Str → List Str} {k : Nat} {n : Nat}
variable {X : Cx} {W : WX}
theorem Pr.cast {e : Expr} {m m' : M} (h : Pr X W e m) (em : ∀ sl h, m' sl h = m sl h) : Pr X W e m' := by
  have : m' = m := funext fun sl => funext fun h => em sl h
  rw [this]; exact h
theorem PrB.cast {op : BoolOp} {es : List Expr} {m m' : M} (h : PrB X W op es m) (em : ∀ sl h, m' sl h = m sl h) : PrB X W op es m' := by
  have : m' = m := funext fun sl => funext fun h => em sl h
  rw [this]; exact h
theorem PA.cast {es : List Expr} {m m' : Ms} (h : PA X es (TsR X.K W m)) (em : ∀ sl h, m' sl h = m sl h) : PA X es (TsR X.K W m') := by
  have : m' = m := funext fun sl => funext fun h => em sl h
  rw [this]; exact h
theorem CA.cast {es : List Expr} {m m' : Ms} (h : CA X W es m) (em : ∀ sl h, m' sl h = m sl h) : CA X W es m' := by
  have : m' = m := funext fun sl => funext fun h => em sl h
  rw [this]; exact h
theorem PD.cast {pos : Pos} {keys : List (Option Expr)} {es : List Expr} {ks : List Str} {m m' : Ms} (h : PD X W pos keys es ks m) (em : ∀ sl h, m' sl h = m sl h) : PD X W pos keys es ks m' := by
  have : m' = m := funext fun sl => funext fun h => em sl h
  rw [this]; exact h
theorem PK.cast {ks : List Keyword} {m m' : Ms} (h : PK X ks (TsR X.K W m)) (em : ∀ sl h, m' sl h = m sl h) : PK X ks (TsR X.K W m') := by
  have : m' = m := funext fun sl => funext fun h => em sl h
  rw [this]; exact h
theorem PI.cast {tg e : Expr} {m m' : Sl → PH → Rs Src} (h : PI X tg e (TiR X.K W m)) (em : ∀ sl h, m' sl h = m sl h) : PI X tg e (TiR X.K W m') := by
  have : m' = m := funext fun sl => funext fun h => em sl h
  rw [this]; exact h
theorem evs_cons {e : E} {es : List E} (h : ∀ z, e ≠ .star z) (sl : Sl) (hh : PH) : evs P F (e :: es) sl hh = (ev P F e sl hh).bind fun x h => (evs P F es sl h).bind fun r h => .ok (x :: r) h := by
  cases e <;> first | (simp only [evs]; done) | exact absurd rfl (h _)
theorem noS_of {e1 : E} {o : Option (List E)} {es' : List E} (h : (if isStarE e1 = true then none else o.map fun r' => e1 :: r') = some es') : (∀ z, e1 ≠ .star z) ∧ ∃ r1, o = some r1 ∧ e1 :: r1 = es' := by
  split at h
  · cases h
  · rename_i hn
    exact ⟨fun z e => hn (by rw [e]; rfl), Option.map_eq_some_iff.mp h⟩
/-- the lists -/
theorem step_Es (hE : Cs.SE P cp fad fdo pso F k n) (hEs : Cs.SEs P cp fad fdo pso F k n) : Cs.SEs P cp fad fdo pso F k (n + 1) := by
  intro X W fr sc es es' C hs h
  cases es with
  | nil =>
    simp only [cEs, Option.some.injEq] at h
    subst h
    refine ⟨PA.cast a_nil fun sl h => by simp only [evs], fun _ => ca_nil.cast fun sl h => by simp only [evs], fun _ pos keys ks hk hl => ?_⟩
    cases keys with
    | nil =>
      simp only [cKeys, Option.some.injEq] at hk
      subst hk
      exact d_nil.cast fun sl h => by simp only [evs]
    | cons _ _ => cases hl
  | cons e r =>
    have plain : (∀ z p, e ≠ .Starred z p) → ∀ e1 r1, cE cp X.N n fr sc e = some e1 → (∀ z, e1 ≠ .star z) → cEs cp X.N n fr sc r = some r1 → es' = e1 :: r1 → PA X (e :: r) (TsR X.K W (evs P F es')) ∧ (argsOk (e :: r) = true → CA X W (e :: r) (evs P F es')) ∧
        (noStar (e :: r) = true → ∀ pos keys ks, cKeys keys = some ks → keys.length = (e :: r).length → PD X W pos keys (e :: r) ks (evs P F es')) := fun hne e1 r1 h1 hst h2 ee => by
      subst ee
      have pe := (hE X W fr sc e e1 C hs h1).pe
      obtain ⟨pa, _, pd⟩ := hEs X W fr sc r r1 C hs h2
      have hn : isStar e = false := by cases e <;> first | rfl | exact absurd rfl (hne _ _)
      have pc : PA X (e :: r) (TsR X.K W (evs P F (e1 :: r1))) := PA.cast (a_cons hn pe pa) fun sl h => evs_cons hst sl h
      refine ⟨pc, fun _ => ca_cons hn pc, fun hns pos keys ks hk hl => ?_⟩
      obtain ⟨_, hns2⟩ := noStar_cons hns
      cases keys with
      | nil => cases hl
      | cons o keys =>
        unfold cKeys at hk
        split at hk
        · rename_i heq; cases heq
        · rename_i x j p2 r' heq
          simp only [List.cons.injEq] at heq
          obtain ⟨rfl, rfl⟩ := heq
          rw [Option.map_eq_some_iff] at hk
          obtain ⟨ks', hk', rfl⟩ := hk
          exact (d_cons pe (pd hns2 pos _ _ hk' (Nat.succ.inj hl))).cast fun sl h => evs_cons hst sl h
        · cases hk
    cases e with
    | Starred z p =>
      simp only [cEs, Option.bind_eq_some_iff, Option.map_eq_some_iff] at h
      obtain ⟨e1, h1, r1, h2, rfl⟩ := h
      have pe := (hE X W fr sc z e1 C hs h1).pe
      obtain ⟨pa, _, pd⟩ := hEs X W fr sc r r1 C hs h2
      refine ⟨PA.cast (a_star pe pa) fun sl h => by simp only [evs] <;> rfl, fun ha => ?_, fun hns => by unfold noStar at hns; simp [isStar] at hns⟩
      cases r with
      | nil =>
        have er : r1 = [] := by
          cases n with
          | zero => simp only [cEs, reduceCtorEq] at h2
          | succ n => simp only [cEs, Option.some.injEq] at h2; exact h2.symm
        subst er
        refine (ca_star pe).cast fun sl h => ?_
        simp only [evs]
        congr 1
        funext x h'
        cases seqOf h' x with
        | none => rfl
        | some l => simp only [Rs.bind_ok, List.append_nil]
      | cons _ _ => simp [argsOk, isStar] at ha
    | _ =>
      simp only [cEs, Option.bind_eq_some_iff] at h
      obtain ⟨e1, h1, h2⟩ := h
      obtain ⟨hst, r1, h3, rfl⟩ := noS_of h2
      exact plain (fun _ _ z => by cases z) e1 r1 h1 hst h3 rfl
theorem step_B (hE : Cs.SE P cp fad fdo pso F k n) (hB : Cs.SB P cp fad fdo pso F k n) : Cs.SB P cp fad fdo pso F k (n + 1) := by
  intro X W op sc es e' C hs h
  match es, h with
  | [], h => simp only [cB, reduceCtorEq] at h
  | [e], h =>
    simp only [cB] at h
    exact nb_one (hE X W false sc e e' C hs h)
  | e :: e2 :: r, h =>
    simp only [cB, Option.bind_eq_some_iff, Option.map_eq_some_iff] at h
    obtain ⟨e1, h1, r1, h2, rfl⟩ := h
    have p1 := hE X W false sc e e1 C hs h1
    have p2 := hB X W op sc (e2 :: r) r1 C hs h2
    cases op with
    | And => exact (nb_and p1 p2).cast fun sl h => by simp only [ev, mAnd] <;> rfl
    | Or => exact (nb_or p1 p2).cast fun sl h => by simp only [ev, mOr] <;> rfl
theorem step_Kw (hE : Cs.SE P cp fad fdo pso F k n) (hK : Cs.SKw P cp fad fdo pso F k n) : Cs.SKw P cp fad fdo pso F k (n + 1) := by
  intro X W sc ks es' C hs h
  match ks, h with
  | [], h =>
    simp only [cKws, Option.some.injEq] at h
    subst h
    exact PK.cast k_nil fun sl h => by simp only [evs]
  | ⟨nm, e, kp⟩ :: r, h =>
    simp only [cKws, Option.bind_eq_some_iff] at h
    obtain ⟨e1, h1, h2⟩ := h
    obtain ⟨hst, r1, h3, rfl⟩ := noS_of h2
    exact PK.cast (k_cons (hE X W false sc e e1 C hs h1).pe (hK X W sc r r1 C hs h3)) fun sl h => evs_cons hst sl h
theorem step_If (hE : Cs.SE P cp fad fdo pso F k n) : Cs.SIf P cp fad fdo pso F k (n + 1) := by
  intro X W sc es e' C hs h
  match es, h with
  | [], h =>
    simp only [cIfs, Option.some.injEq] at h
    subst h
    refine ⟨fun pins s σ H Q I ⟨ρ, sl, h, A, g⟩ => pts_nil.run pins s σ H Q I ?_⟩
    simp only [bT, ev, Rs.bind_ok, tru, Rs.of] at g
    exact g.here A
  | [c], h =>
    simp only [cIfs] at h
    exact pts_one (hE X W false sc c e' C hs h).pt
  | _ :: _ :: _, h => simp only [cIfs, reduceCtorEq] at h
end
end R
end

section
set_option Elab.async false
set_option linter.all false
set_option maxRecDepth 100000
set_option maxHeartbeats 8000000
/-! The steps: sources, comprehensions. -/
namespace R
open PySem PySem.Spec PyProof.Rows L2
section
variable {P : Pg} {cp : CP} {F : FF} {fad : Str → Addr} {fdo : Str → FuncData} {pso : Str → List Str} {k : Nat} {n : Nat}
variable {X : Cx} {W : WX}
theorem isTupE_of {e : Expr} (h : isTupE e = true) : ∃ es k p, e = .Tuple es k p := by
  cases e <;> first | exact ⟨_, _, _, rfl⟩ | cases h
theorem step_It (hE : Cs.SE P cp fad fdo pso F k n) : Cs.SIt P cp fad fdo pso F k (n + 1) := by
  intro X W tg sc e e' C hs h
  have byE : ∀ {o : E}, cE cp X.N n true sc e = some o → e' = .itE o → PI X tg e (TiR X.K W (evIt P F e')) ∧ ∀ env x, foldedSetIterable e env x = pure x := fun {o} h1 h2 => by
    subst h2
    exact ⟨PI.cast (i_e (hE X W true sc e o C hs h1).pe) fun sl h => by simp only [evIt], fun env x => cE_folded h1 env x⟩
  have byM : (cE cp X.N n true sc e).map E.itE = some e' → PI X tg e (TiR X.K W (evIt P F e')) ∧ ∀ env x, foldedSetIterable e env x = pure x := fun h1 => by
    rw [Option.map_eq_some_iff] at h1
    obtain ⟨o, h1, h2⟩ := h1
    exact byE h1 h2.symm
  cases e with
  | Call f as ks p =>
    cases f with
    | Name f q =>
      simp only [cIt] at h
      split at h
      · rename_i hc
        simp only [Bool.and_eq_true] at hc
        obtain ⟨⟨⟨hG, hk⟩, hns⟩, hd⟩ := hc
        have hk : ks = [] := by simpa using hk
        subst hk
        obtain ⟨d1, _, _⟩ := dbg_no (x := f) (by simpa using hd)
        have hG := isGlb_gl hG hs
        cases eg : cp.g f with
        | none => rw [eg] at h; exact byM h
        | some gk =>
          rw [eg] at h
          cases gk with
          | free =>
            simp only at h
            split at h
            · rename_i ef
              subst ef
              match as, h, hns, byM with
              | [a], h, hns, byM =>
                simp only [Option.map_eq_some_iff] at h
                obtain ⟨a1, h1, rfl⟩ := h
                exact ⟨PI.cast (i_rng1 C.c eg hG (noStar_cons hns).1 (hE X W false sc a a1 C hs h1).pe) fun sl h => by simp only [evIt], fun env x => rfl⟩
              | [a, b], h, hns, byM =>
                simp only [Option.bind_eq_some_iff, Option.map_eq_some_iff] at h
                obtain ⟨a1, h1, b1, h2, rfl⟩ := h
                exact ⟨PI.cast (i_rng2 C.c eg hG (noStar_cons hns).1 (noStar_cons (noStar_cons hns).2).1 (hE X W false sc a a1 C hs h1).pe (hE X W false sc b b1 C hs h2).pe) fun sl h => by simp only [evIt], fun env x => rfl⟩
              | [], h, hns, byM => cases h
              | _ :: _ :: _ :: _, h, hns, byM => cases h
            · split at h
              · rename_i ef
                subst ef
                match as, h, hns, byM with
                | [a], h, hns, byM =>
                  simp only at h
                  split at h
                  · rename_i ht
                    rw [Option.map_eq_some_iff] at h
                    obtain ⟨a1, h1, rfl⟩ := h
                    obtain ⟨es, kk, tp, rfl⟩ := isTupE_of ht
                    exact ⟨PI.cast (i_enum C.c eg hG (noStar_cons hns).1 (hE X W false sc a a1 C hs h1).pe) fun sl h => by simp only [evIt], fun env x => rfl⟩
                  · cases h
                | [], h, hns, byM => cases h
                | _ :: _ :: _, h, hns, byM => cases h
              · split at h
                · rename_i ef
                  subst ef
                  match as, h, hns, byM with
                  | [a, b], h, hns, byM =>
                    simp only at h
                    split at h
                    · rename_i ht
                      simp only [Option.bind_eq_some_iff, Option.map_eq_some_iff] at h
                      obtain ⟨a1, h1, b1, h2, rfl⟩ := h
                      obtain ⟨es, kk, tp, rfl⟩ := isTupE_of ht
                      exact ⟨PI.cast (i_zip C.c eg hG (noStar_cons hns).1 (noStar_cons (noStar_cons hns).2).1 (hE X W false sc a a1 C hs h1).pe (hE X W false sc b b1 C hs h2).pe) fun sl h => by simp only [evIt], fun env x => rfl⟩
                    · cases h
                  | [], h, hns, byM => cases h
                  | [_], h, hns, byM => cases h
                  | _ :: _ :: _ :: _, h, hns, byM => cases h
                · exact byM h
          | con v => exact byM h
          | cls => exact byM h
          | fn ps => exact byM h
      · exact byM h
    | _ =>
      simp only [cIt] at h
      exact byM h
  | _ =>
    simp only [cIt] at h
    exact byM h
theorem subL_mem {a b : List Nat} (h : subL a b = true) : ∀ i ∈ a, i ∈ b := fun i hi => by
  unfold subL at h
  rw [List.all_eq_true] at h
  simpa using h i hi
theorem step_C (hE : Cs.SE P cp fad fdo pso F k n) (hIt : Cs.SIt P cp fad fdo pso F k n) (hIf : Cs.SIf P cp fad fdo pso F k n) (hC : Cs.SC P cp fad fdo pso F k n) : Cs.SC P cp fad fdo pso F k (n + 1) := by
  intro X sc scope elt gs gens e' d pos D C hs t hx hd h
  match gs, h, hd with
  | [], h, hd =>
    simp only [cCl, Option.map_eq_some_iff] at h
    obtain ⟨e1, h1, rfl⟩ := h
    have hn : gens[d + 1]? = none := by
      rw [List.getElem?_eq_none_iff]
      exact List.drop_eq_nil_iff.mp hd
    refine ⟨none, .none hn, ?_⟩
    have := lv_emit (X := X) (D := D) (scope := scope) (elt := elt) (gens := gens) (pos := pos) (d := d) (hE X Wf false sc elt e1 C hs h1).pe hx
    have em : evC P F (.emit e1) = fun sl h acc => (ev P F e1 sl h).bind fun y h => if acc.length < sizeL then .ok (acc ++ [y]) h else .bad := by
      funext sl h acc
      simp only [evC]
    rw [em]
    exact this
  | ⟨t1, i1, ifs1, a1⟩ :: gs, h, hd =>
    simp only [cCl] at h
    split at h
    · rename_i ha
      subst ha
      simp only [Option.bind_eq_some_iff, Option.map_eq_some_iff] at h
      obtain ⟨tg, h1, it, h2, c, h3, b, h4, rfl⟩ := h
      have hg : gens[d + 1]? = some ⟨t1, i1, ifs1, 0⟩ := by
        have := congrArg (fun l => l[0]?) hd
        simpa using this
      have hd2 : gens.drop (d + 1 + 1) = gs := by
        have := congrArg List.tail hd
        simpa using this
      obtain ⟨p1, p2⟩ := hIt X Wf t1 sc i1 it C hs h2
      obtain ⟨nx, hn, lv⟩ := hC X sc scope elt gs gens b (d + 1) pos D C hs t hx hd2 h4
      refine ⟨some i1, .some hg p2, ?_⟩
      have := lv_clause (D := D) (pos := pos) (vs := tg.ix ++ slotsOf b) C.c.calm hg hn p1 (pg_ok C.c.calm C.c.nd t h1) (hIf X Wf sc ifs1 c C hs h3) lv hx (fun j hj => List.mem_append_left _ hj) (fun j hj => List.mem_append_right _ hj)
      have em : evC P F (.cl tg (tg.ix ++ slotsOf b) it c b) = fun sl h acc => (evIt P F it sl h).bind fun src h => match src.len h with
          | some n => clGo tg (tg.ix ++ slotsOf b) (bT (ev P F c)) (evC P F b) src sl n 0 acc h
          | none => .bad := by
        funext sl h acc
        simp only [evC]
        rfl
      rw [em]
      exact this
    · cases h
/-- a comprehension -/
theorem lcm_ok (hIt : Cs.SIt P cp fad fdo pso F k n) (hIf : Cs.SIf P cp fad fdo pso F k n) (hC : Cs.SC P cp fad fdo pso F k n) {X : Cx} {W : WX} {fr : Bool} {sc scope : Scope} {elt : Expr} {gens : List Comprehension} {pos : Pos} {e' : E} (C : Cs P cp fad fdo pso F k X W) (hs : X.env.scope = sc)
    (h : cE cp X.N (n + 1) fr sc (.ListComp elt gens scope pos) = some e') {pins : List (Addr × Obj)} {s : Shared} {σ : L2.St} {H : Hp} {Q : VK} {use : Option (Value → Sem Unit)} {Qf : Value → Shared → Prop} {pos' : Pos} (I : Inv X pins σ H s) (hT : T X.K W (ev P F e') σ H Q)
    (hRR : ∀ D C s' m H', Inv X pins σ H' s' → Q (.ref D) H' → s'.heap.Ns C m → FpOk X pins H' C → compPost (model X.prog X.w) X.A X.xe use Qf (.ref D) C (.ok .next) s') :
    wpAny (model X.prog X.w) X.A (comprehension (.ListComp elt gens scope pos) scope X.env pos' (newList []) (firstAsync gens) (firstIter gens X.env) use) Qf X.xe s := by
  simp only [cE] at h
  match gens, h with
  | [], h => cases h
  | ⟨t, i, ifs, a⟩ :: gs, h =>
    simp only at h
    split at h
    · rename_i ha
      rw [Bool.and_eq_true] at ha
      obtain ⟨ha, hb⟩ := ha
      have ha : a = 0 := by simpa using ha
      subst ha
      simp only [Option.bind_eq_some_iff] at h
      obtain ⟨tg, h1, it, h2, c, h3, b, h4, h5⟩ := h
      split at h5
      · rename_i hsub
        simp only [Option.some.injEq] at h5
        subst h5
        obtain ⟨p1, p2⟩ := hIt X W t sc i it C hs h2
        rw [← hs] at hb h3 h4
        have blk := fun (s : Shared) (H : Hp) (Ca : Addr) (cl : List (Str × Addr)) (fp : List Addr) => C.blk s H scope (compEnvC scope cl Ca X.env) fp
        obtain ⟨ρ, sl, h0, A, gd⟩ := hT
        have em : ev P F (.lcm fr tg ((ownOf X.N scope).map (·.2)) it c b) sl h0 = lcM fr tg ((ownOf X.N scope).map (·.2)) (evIt P F it) (bT (ev P F c)) (evC P F b) sl h0 := by
          simp only [ev, lcM]
          rfl
        rw [em] at gd
        have nxs : ∃ nx, Nxt (⟨t, i, ifs, 0⟩ :: gs) 0 nx ∧ ∀ (s : Shared) (H : Hp) (Ca : Addr) (cl : List (Str × Addr)) (fp : List Addr) (D : Addr), LV (X.blk s H scope (compEnvC scope cl Ca X.env) fp) D (slotsOf b) (evC P F b) (TailP X.prog X.w X.A (fun _ _ => False) elt (⟨t, i, ifs, 0⟩ :: gs) scope pos 0 (.ref D) (compEnvC scope cl Ca X.env) nx) := by
          have one := fun (s : Shared) (H : Hp) (Ca : Addr) (cl : List (Str × Addr)) (fp : List Addr) (D : Addr) => hC (X.blk s H scope (compEnvC scope cl Ca X.env) fp) (relS scope X.env.scope) scope elt gs (⟨t, i, ifs, 0⟩ :: gs) b 0 pos D (blk s H Ca cl fp) rfl (tok_blk X s H scope Ca cl fp) rfl rfl h4
          obtain ⟨nx, hn, _⟩ := one s H 0 [] [] 0
          refine ⟨nx, hn, fun s H Ca cl fp D => ?_⟩
          obtain ⟨nx2, hn2, lv⟩ := one s H Ca cl fp D
          have enx : nx2 = nx := by
            cases hn with
            | some e1 _ =>
              cases hn2 with
              | some e2 _ => rw [e1] at e2; cases e2; rfl
              | none e2 => rw [e1] at e2; cases e2
            | none e1 =>
              cases hn2 with
              | some e2 _ => rw [e1] at e2; cases e2
              | none e2 => rfl
          rw [← enx]
          exact lv
        obtain ⟨nx, hn, lv⟩ := nxs
        have hsub' := subL_mem hsub
        exact lcm_core (fr := fr) C.c.calm C.c.nd I p1 (blkOk_by hb) hn (fun s H Ca cl fp => pg_ok (X := X.blk s H scope (compEnvC scope cl Ca X.env) fp) C.c.calm C.c.nd (tok_blk X s H scope Ca cl fp) h1)
          (fun s H Ca cl fp => hIf (X.blk s H scope (compEnvC scope cl Ca X.env) fp) Wf (relS scope X.env.scope) ifs c (blk s H Ca cl fp) rfl h3) lv (fun x => p2 X.env x) (fun j hj => hsub' j (List.mem_append_left _ hj)) (fun j hj => hsub' j (List.mem_append_right _ hj)) A gd hRR
      · cases h5
    · cases h
theorem pe_comp (hIt : Cs.SIt P cp fad fdo pso F k n) (hIf : Cs.SIf P cp fad fdo pso F k n) (hC : Cs.SC P cp fad fdo pso F k n) {fr : Bool} {sc scope : Scope} {elt : Expr} {gens : List Comprehension} {pos : Pos} {e' : E} (C : Cs P cp fad fdo pso F k X W) (hs : X.env.scope = sc)
    (h : cE cp X.N (n + 1) fr sc (.ListComp elt gens scope pos) = some e') : PE X (.ListComp elt gens scope pos) (T X.K W (ev P F e')) := by
  refine ⟨fun pins s σ H Q I hT => ?_⟩
  rw [eval_ListComp]
  refine lcm_ok hIt hIf hC C hs h I hT fun D Ca s' m H' I' q hn f => ⟨m, hn, fun h'' sb => ?_⟩
  obtain ⟨f0, f1, f2, f3, f4, f5⟩ := f
  exact ⟨.ref D, H', I'.turned (t' := s'.toks) (fun b o hb e => (sb.2 b hb).trans e) f0 f1 f3 f4 f5, rfl, q⟩
/-- a dict comprehension -/
theorem pe_dcomp (hE : Cs.SE P cp fad fdo pso F k n) (hIt : Cs.SIt P cp fad fdo pso F k n) (hIf : Cs.SIf P cp fad fdo pso F k n) {fr : Bool} {sc scope : Scope} {kx vx : Expr} {gens : List Comprehension} {pos : Pos} {e' : E} (C : Cs P cp fad fdo pso F k X W) (hs : X.env.scope = sc)
    (h : cE cp X.N (n + 1) fr sc (.DictComp kx vx gens scope pos) = some e') : PE X (.DictComp kx vx gens scope pos) (T X.K W (ev P F e')) := by
  simp only [cE] at h
  match gens, h with
  | [], h => cases h
  | ⟨t, i, ifs, a⟩ :: g2 :: gs, h => cases h
  | [⟨t, i, ifs, a⟩], h =>
    simp only at h
    split at h
    · rename_i ha
      rw [Bool.and_eq_true] at ha
      obtain ⟨ha, hb⟩ := ha
      have ha : a = 0 := by simpa using ha
      subst ha
      simp only [Option.bind_eq_some_iff] at h
      obtain ⟨tg, h1, it, h2, c, h3, ke, h4, ve, h5, h6⟩ := h
      split at h6
      · rename_i hsub
        simp only [Option.some.injEq] at h6
        subst h6
        obtain ⟨p1, p2⟩ := hIt X W t sc i it C hs h2
        rw [← hs] at hb h3 h4 h5
        have blk := fun (s : Shared) (H : Hp) (Ca : Addr) (cl : List (Str × Addr)) (fp : List Addr) => C.blk s H scope (compEnvC scope cl Ca X.env) fp
        refine ⟨fun pins s σ H Q I hT => ?_⟩
        obtain ⟨ρ, sl, h0, A, gd⟩ := hT
        have em : ev P F (.dc tg ((ownOf X.N scope).map (·.2)) it c ke ve) sl h0 = dcM tg ((ownOf X.N scope).map (·.2)) (evIt P F it) (bT (ev P F c)) (ev P F ke) (ev P F ve) sl h0 := by
          simp only [ev, dcM]
          rfl
        rw [em] at gd
        exact (pe_dc C.c.calm C.c.nd p1 (blkOk_by hb) (fun s H Ca cl fp => pg_ok (X := X.blk s H scope (compEnvC scope cl Ca X.env) fp) C.c.calm C.c.nd (tok_blk X s H scope Ca cl fp) h1)
          (fun s H Ca cl fp => hIf (X.blk s H scope (compEnvC scope cl Ca X.env) fp) Wf (relS scope X.env.scope) ifs c (blk s H Ca cl fp) rfl h3)
          (fun s H Ca cl fp => (hE (X.blk s H scope (compEnvC scope cl Ca X.env) fp) Wf false (relS scope X.env.scope) kx ke (blk s H Ca cl fp) rfl h4).pe)
          (fun s H Ca cl fp => (hE (X.blk s H scope (compEnvC scope cl Ca X.env) fp) Wf false (relS scope X.env.scope) vx ve (blk s H Ca cl fp) rfl h5).pe) (fun x => p2 X.env x)).run pins s σ H Q I (dc_walk (subL_mem hsub) A gd)
      · cases h6
    · cases h
end
end R
end

section
set_option Elab.async false
set_option linter.all false
set_option maxRecDepth 100000
set_option maxHeartbeats 8000000
/-! The step of the expressions. -/
namespace R
open PySem PySem.Spec PyProof.Rows L2
section
variable {P : Pg} {cp : CP} {F : FF} {fad : Str → Addr} {fdo : Str → FuncData} {pso : Str → List Str} {k : Nat} {n : Nat}
variable {X : Cx} {W : WX}
theorem kw_all : ∀ {ks : List Keyword} {kn : List Str} {env : Env} {pos : Pos}, kwNames ks = some kn → (backToKw pos (keywordEach ks env)).all (·.1.isSome) = true ∧ (backToKw pos (keywordEach ks env)).filterMap (·.1) = kn ∧ (backToKw pos (keywordEach ks env)).any (·.1.isNone) = false
  | [], kn, env, pos, h => by
    simp only [kwNames, Option.some.injEq] at h
    subst h
    exact ⟨rfl, rfl, rfl⟩
  | ⟨nm, e, p⟩ :: r, kn, env, pos, h => by
    cases nm with
    | none => simp only [kwNames, reduceCtorEq] at h
    | some x =>
      simp only [kwNames, Option.map_eq_some_iff] at h
      obtain ⟨r', h1, rfl⟩ := h
      obtain ⟨h2, h3, h4⟩ := kw_all (env := env) (pos := pos) h1
      have e1 : backToKw pos (keywordEach (⟨some x, e, p⟩ :: r) env) = (some x, do let v ← eval e env; standAt pos; pure v) :: backToKw pos (keywordEach r env) := rfl
      rw [e1]
      refine ⟨?_, ?_, ?_⟩
      · rw [List.all_cons, h2]; rfl
      · rw [List.filterMap_cons, h3]
      · rw [List.any_cons, h4]; rfl
theorem Ct.units (C : Ct P cp.g fad fdo pso F k X W) : X.A.units + 64 < cLine := C.room.units
theorem Ct.units1 (C : Ct P cp.g fad fdo pso F k X W) : X.A.units + 1 < cLine := by have := C.room.units; omega
/-- comparisons with an own == -/
def CmpOk (P : Pg) (F : FF) (X : Cx) : Prop := ∀ (op : CmpOp), OpR X (compareOp op) (V2 X.K (cmpE P F (cCp op)))
theorem isB_isBl {f : Bool → Bool} {r : Rs PV} {z : PV} {h' : PH} (e : r.bind (isBl f) = .ok z h') : ∃ b, z = .bl b := by
  cases r with
  | ok v h =>
    cases v <;> first | (cases e; done) | skip
    simp only [Rs.bind_ok, isBl, Rs.ok.injEq] at e
    exact ⟨_, e.1.symm⟩
  | er _ _ _ => cases e
  | bad => cases e
theorem isB_cmpE (op : CmpOp) : IsB (cmpE P F (cCp op)) := by
  intro x y h z h' e
  cases op with
  | Eq =>
    simp only [cCp, cmpE] at e
    split at e
    · split at e
      · exact isB_isBl e
      · cases e
    · exact isB_cmp .eq _ _ _ _ _ e
  | NotEq =>
    simp only [cCp, cmpE] at e
    split at e
    · split at e
      · exact isB_isBl e
      · cases e
    · exact isB_cmp .ne _ _ _ _ _ e
  | Lt => exact isB_cmp .lt _ _ _ _ _ e
  | LtE => exact isB_cmp .le _ _ _ _ _ e
  | Gt => exact isB_cmp .gt _ _ _ _ _ e
  | GtE => exact isB_cmp .ge _ _ _ _ _ e
  | Is => exact isB_cmp .is _ _ _ _ _ e
  | IsNot => exact isB_cmp .isNot _ _ _ _ _ e
  | In => exact isB_cmp .isIn _ _ _ _ _ e
  | NotIn => exact isB_cmp .notIn _ _ _ _ _ e
theorem cmp_all (C : Cs P cp fad fdo pso F k X W) : CmpOk P F X := by
  intro op pins s σ H x y v u Q I rx ry ⟨W, σ', ρ, sl, h, p, q, A, r1, r2, g⟩
  have key : ∀ o, Good X.K W σ' ρ H (doCmp (cCp o) p q h) Q → wpAny (model X.prog X.w) X.A (compareOp o v u) (EP X pins σ Q) X.xe s := fun o g => cmp_ok C.c.units o pins s σ H x y v u Q I rx ry ⟨W, σ', ρ, sl, h, p, q, A, r1, r2, g⟩
  cases op with
  | Eq =>
    simp only [cCp, cmpE] at g
    split at g
    · rename_i d e
      split at g
      · rename_i hk
        exact own_cmp C.c (.inl ⟨rfl, rfl⟩) I rx ry A.sim r1 r2 e hk g
      · exact g.elim
    · exact key .Eq g
  | NotEq =>
    simp only [cCp, cmpE] at g
    split at g
    · rename_i d e
      split at g
      · rename_i hk
        exact own_cmp C.c (.inr ⟨rfl, rfl⟩) I rx ry A.sim r1 r2 e hk g
      · exact g.elim
    · exact key .NotEq g
  | Lt => exact key .Lt g
  | LtE => exact key .LtE g
  | Gt => exact key .Gt g
  | GtE => exact key .GtE g
  | Is => exact key .Is g
  | IsNot => exact key .IsNot g
  | In => exact key .In g
  | NotIn => exact key .NotIn g
theorem free_of {o : Option Gk} (h : isFree o = true) : o = some .free := by
  cases o with
  | none => cases h
  | some k => cases k <;> first | rfl | cases h
theorem rngArgs_ok {sc : Scope} {as : List Expr} {a b : Expr} (h : rngArgs cp sc as = some (a, b)) : ∃ p q, as = [.Call (.Name "range" p) [a, b] [] q] ∧ isGlb sc "range" = true ∧ cp.g "range" = some .free ∧ isStar a = false ∧ isStar b = false := by
  unfold rngArgs at h
  split at h
  · split at h
    · rename_i hc
      obtain ⟨e1, e2, e3, e4, e5⟩ := hc
      cases h
      subst e1
      exact ⟨_, _, rfl, e2, free_of e3, e4, e5⟩
    · cases h
  · cases h
theorem setArg_ok {sc : Scope} {as : List Expr} {a : Expr} (h : setArg cp sc as = some a) : ∃ p q, as = [.Call (.Name "set" p) [a] [] q] ∧ isGlb sc "set" = true ∧ cp.g "set" = some .free ∧ isStar a = false := by
  unfold setArg at h
  split at h
  · split at h
    · rename_i hc
      obtain ⟨e1, e2, e3, e4⟩ := hc
      cases h
      subst e1
      exact ⟨_, _, rfl, e2, free_of e3, e4⟩
    · cases h
  · cases h
theorem call_ok (hE : Cs.SE P cp fad fdo pso F k n) (hEs : Cs.SEs P cp fad fdo pso F k n) (hKw : Cs.SKw P cp fad fdo pso F k n) {X : Cx} {W : WX} {fr : Bool} {sc : Scope} {f : Expr} {as : List Expr} {ks : List Keyword} {pos : Pos} {e' : E} (C : Cs P cp fad fdo pso F k X W) (hs : X.env.scope = sc)
    (h : cE cp X.N (n + 1) fr sc (.Call f as ks pos) = some e') : PE X (.Call f as ks pos) (T X.K W (ev P F e')) := by
  have cast : ∀ {e : Expr} {m m' : M}, PE X e (T X.K W m) → (∀ sl h, m' sl h = m sl h) → PE X e (T X.K W m') := fun {e m m'} h em => by
    have : m' = m := funext fun sl => funext fun h => em sl h
    rw [this]; exact h
  cases f with
  | Name f p =>
    simp only [cE] at h
    split at h
    · cases h
    · rename_i hd
      obtain ⟨d1, d2, d3⟩ := dbg_no hd
      split at h
      · rename_i hv
        split at h
        · rename_i hk
          rw [Bool.and_eq_true] at hk
          have hk0 : ks = [] := by simpa using hk.1
          subst hk0
          simp only [Option.bind_eq_some_iff, Option.map_eq_some_iff] at h
          obtain ⟨i, h1, es, h2, rfl⟩ := h
          have pv := n_var (W := W) (pos := p) (ixOf_get h1) (isVis_vis hv hs) d1 d2
          exact cast (n_appV C.c pv ((hEs X W false sc as es C hs h2).2.1 hk.2)) fun sl h => by simp only [ev, appM] <;> rfl
        · cases h
      · split at h
        · rename_i hg
          have hG := isGlb_gl hg hs
          cases eg : cp.g f with
          | none => rw [eg] at h; cases h
          | some gk =>
            rw [eg] at h
            cases gk with
            | con v => cases h
            | fn ps =>
              simp only at h
              split at h
              · rename_i hk
                have hk0 : ks = [] := by simpa using hk
                subst hk0
                split at h
                · rename_i ha
                  rw [Option.map_eq_some_iff] at h
                  obtain ⟨es, h2, rfl⟩ := h
                  exact cast (n_fn C.c eg hG d1 ((hEs X W false sc as es C hs h2).2.1 ha)) fun sl h => by simp only [ev] <;> rfl
                · cases h
              · split at h
                · rename_i ha
                  have ha0 : as = [] := by simpa using ha
                  subst ha0
                  simp only [Option.bind_eq_some_iff, Option.map_eq_some_iff] at h
                  obtain ⟨kn, h1, r, h2, es, h3, rfl⟩ := h
                  have hr := List.mem_of_find?_eq_some h2
                  have hr2 := List.find?_some h2
                  rw [Bool.and_eq_true] at hr2
                  have e1 : r.1 = f := by simpa using hr2.1
                  have e2 : r.2.1 = kn := by simpa using hr2.2
                  have kb := C.kw r hr
                  rw [e1, e2] at kb
                  obtain ⟨k1, k2, k3⟩ := kw_all (env := X.env) (pos := pos) h1
                  exact cast (n_kw C.c eg hG d1 kb (hKw X W sc ks es C hs h3) k1 k2 (by rw [k3]; rfl)) fun sl h => by simp only [ev] <;> rfl
                · cases h
            | cls =>
              simp only at h
              split at h
              · rename_i hk
                rw [Bool.and_eq_true] at hk
                have hk0 : ks = [] := by simpa using hk.1
                subst hk0
                rw [Option.map_eq_some_iff] at h
                obtain ⟨es, h2, rfl⟩ := h
                have ca := (hEs X W false sc as es C hs h2).2.1 hk.2
                cases ei : initName P f with
                | none =>
                  refine ⟨fun pins s σ H Q I ⟨ρ, sl, h, A, gd⟩ => ?_⟩
                  have hM : PySem.W.keepIn X.K (.ref (He.ga X.K f)) = true := C.c.fs.ckp f eg
                  refine wpAny_Call_Name_kw (ld_glob I hG (C.c.fs.cls f eg) ?_ d1)
                  refine ca pos _ [] pins s σ H (fun _ _ => False) Q hM I (T.stepL (k := fun _ _ => Rs.bad) (Q := Q) A (by simpa only [ev, ei] using gd) fun ρ1 H1 h1 x v l k A1 r g1 => g1.elim) fun us vs s1 H1 I1 rv q => q.elim
                | some d => exact cast (n_mk C.c eg ei hG d1 ca) fun sl h => by simp only [ev, ei] <;> rfl
              · cases h
            | free =>
              simp only at h
              split at h
              · rename_i hk
                rw [Bool.and_eq_true] at hk
                have hk0 : ks = [] := by simpa using hk.1
                subst hk0
                split at h
                · rename_i ef
                  subst ef
                  match as, h, hk with
                  | [e, c], h, hk =>
                    simp only [Option.bind_eq_some_iff] at h
                    obtain ⟨e1, h1, cs, h2, h3⟩ := h
                    split at h3
                    · rename_i hc
                      simp only [Option.some.injEq] at h3
                      subst h3
                      obtain ⟨hn1, _⟩ := noStar_cons hk.2
                      have pe := (hE X W false sc e e1 C hs h1).pe
                      cases hT : isTupE c with
                      | true =>
                        obtain ⟨ces, k0, p2, rfl⟩ := isTupE_of hT
                        simp only [cClss] at h2
                        exact cast (n_isiN C.c eg hG hn1 hc.1 hc.2 pe (mapM_pair C hs h2)) fun sl h => by simp only [ev, isM] <;> rfl
                      | false =>
                        obtain ⟨c1, rfl, h4⟩ := cClss_one hT h2
                        obtain ⟨q1, q2⟩ := cCls_ok C hs h4
                        exact cast (n_isi1 C.c eg hG hn1 q1 pe q2) fun sl h => by simp only [ev, isM] <;> rfl
                    · cases h3
                  | [], h, hk => cases h
                  | [_], h, hk => cases h
                  | _ :: _ :: _ :: _, h, hk => cases h
                · split at h
                  · rename_i hr
                    obtain ⟨rfl, _⟩ := hr
                    simp only [Option.bind_eq_some_iff, Option.map_eq_some_iff] at h
                    obtain ⟨⟨a, b⟩, h0, a1, h1, b1, h2, rfl⟩ := h
                    obtain ⟨p2, q2, rfl, v1, v2, v3, v4⟩ := rngArgs_ok h0
                    exact cast (n_lrg C.c v2 (isGlb_gl v1 hs) eg hG v3 v4 (hE X W false sc a a1 C hs h1).pe (hE X W false sc b b1 C hs h2).pe) fun sl h => by simp only [ev] <;> rfl
                  split at h
                  · rename_i hr
                    obtain ⟨rfl, _⟩ := hr
                    simp only [Option.bind_eq_some_iff, Option.map_eq_some_iff] at h
                    obtain ⟨a, h0, a1, h1, rfl⟩ := h
                    obtain ⟨p2, q2, rfl, v1, v2, v3⟩ := setArg_ok h0
                    exact cast (n_lns C.c eg hG v2 (isGlb_gl v1 hs) v3 (hE X W true sc a a1 C hs h1).pe) fun sl h => by simp only [ev] <;> rfl
                  split at h
                  · rename_i hne
                    simp only [Option.bind_eq_some_iff, Option.map_eq_some_iff] at h
                    obtain ⟨b, h1, es, h2, rfl⟩ := h
                    match as, hne, hk, h2 with
                    | a :: as, hne, hk, h2 =>
                      obtain ⟨hn1, hn2⟩ := noStar_cons hk.2
                      have ef := bName_of h1
                      subst ef
                      exact cast (n_blt C.c eg hG hn1 (noStar_each hn2) (hEs X W true sc (a :: as) es C hs h2).1) fun sl h => by simp only [ev] <;> rfl
                  · cases h
              · cases h
        · cases h
  | Attribute o m apos =>
    simp only [cE] at h
    split at h
    · rename_i hk
      rw [Bool.and_eq_true] at hk
      have hk0 : ks = [] := by simpa using hk.1
      subst hk0
      have hb := fun w => noSup_base (a := m) (env := X.env) (w := w) hk.2
      split at h
      · have plain : (if noStar as && decide (as.length < 30) && apos.endLine == pos.line then (cE cp X.N n false sc o).bind fun o' => (cEs cp X.N n false sc as).map fun es => E.met m o' es else none) = some e' → PE X (.Call (.Attribute o m apos) as [] pos) (T X.K W (ev P F e')) := fun h => by
          split at h
          · rename_i hc
            simp only [Bool.and_eq_true, decide_eq_true_eq] at hc
            obtain ⟨⟨c1, c2⟩, c3⟩ := hc
            simp only [Option.bind_eq_some_iff, Option.map_eq_some_iff] at h
            obtain ⟨o1, h1, es, h2, rfl⟩ := h
            have hargs : argsOk as = true := by
              match as, c1 with
              | [], _ => rfl
              | [_], _ => rfl
              | a :: b :: r, c1 => have := (noStar_cons c1).1; simp [argsOk, this]
            exact cast (n_met C.c (hb _) (noStar_form c1 c2) c3 (hE X W false sc o o1 C hs h1).pe ((hEs X W false sc as es C hs h2).2.1 hargs)) fun sl h => by simp only [ev, metM] <;> rfl
          · cases h
        match as, h, plain with
        | [.Starred e p], h, _ =>
          simp only [Option.bind_eq_some_iff, Option.map_eq_some_iff] at h
          obtain ⟨o1, h1, e1, h2, rfl⟩ := h
          refine cast (n_metS C.c (hb _) (hE X W false sc o o1 C hs h1).pe (hE X W false sc e e1 C hs h2).pe) fun sl h => ?_
          simp only [ev, metM, evs, Rs.bind_ok, List.append_nil] <;> rfl
        | [], h, plain => exact plain h
        | [a], h, plain =>
          cases a with
          | Starred e p =>
            simp only [Option.bind_eq_some_iff, Option.map_eq_some_iff] at h
            obtain ⟨o1, h1, e1, h2, rfl⟩ := h
            refine cast (n_metS C.c (hb _) (hE X W false sc o o1 C hs h1).pe (hE X W false sc e e1 C hs h2).pe) fun sl h => ?_
            simp only [ev, metM, evs, Rs.bind_ok, List.append_nil] <;> rfl
          | _ => exact plain h
        | a :: b :: r, h, plain => cases a <;> exact plain h
      · split at h
        · rename_i hc
          simp only [Bool.and_eq_true, decide_eq_true_eq] at hc
          obtain ⟨⟨⟨c1, c2⟩, c3⟩, c4⟩ := hc
          simp only [Option.bind_eq_some_iff, Option.map_eq_some_iff] at h
          obtain ⟨b, h0, o1, h1, es, h2, rfl⟩ := h
          match as, c1, c2, c4, h2 with
          | a :: as, c1, c2, c4, h2 =>
            obtain ⟨hn1, hn2⟩ := noStar_cons c1
            have ef := bmName_of h0
            subst ef
            exact cast (n_bm (hb _) (noStar_form c1 c2) c3 hn1 (noStar_each hn2) (hE X W false sc o o1 C hs h1).pe (hEs X W false sc (a :: as) es C hs h2).1) fun sl h => by simp only [ev] <;> rfl
        · cases h
    · cases h
  | Call f2 bs js p =>
    simp only [cE] at h
    split at h
    · rename_i hk
      rw [Bool.and_eq_true] at hk
      have hk0 : ks = [] := by simpa using hk.1
      subst hk0
      simp only [Option.bind_eq_some_iff, Option.map_eq_some_iff] at h
      obtain ⟨f1, h1, es, h2, rfl⟩ := h
      exact cast (n_appC C.c (hE X W false sc _ f1 C hs h1).pe ((hEs X W false sc as es C hs h2).2.1 hk.2)) fun sl h => by simp only [ev, appM] <;> rfl
    · cases h
  | _ => simp only [cE, reduceCtorEq] at h
theorem step_E (hcmp : ∀ (X : Cx) (W : WX), Cs P cp fad fdo pso F k X W → CmpOk P F X) (hE : Cs.SE P cp fad fdo pso F k n) (hEs : Cs.SEs P cp fad fdo pso F k n) (hB : Cs.SB P cp fad fdo pso F k n) (hKw : Cs.SKw P cp fad fdo pso F k n) (hIt : Cs.SIt P cp fad fdo pso F k n) (hIf : Cs.SIf P cp fad fdo pso F k n)
    (hC : Cs.SC P cp fad fdo pso F k n) : Cs.SE P cp fad fdo pso F k (n + 1) := by
  intro X W fr sc e e' C hs h
  cases e with
  | Constant c j p =>
    simp only [cE, Option.map_eq_some_iff] at h
    obtain ⟨v, h1, rfl⟩ := h
    have key : ∀ (w : V) (x : PV), PE X (.Constant c j p) (tC w) → (∀ ρ H, RP X.K ρ H x w) → Pr X W (.Constant c j p) (ev P F (.con x)) := fun w x he r => (pr_of (n_con he r)).cast fun sl h => by simp only [ev] <;> rfl
    cases c <;> simp only [cConst, reduceCtorEq, Option.some.injEq] at h1
    all_goals first | (subst h1; first | exact key _ _ pe_non fun _ _ => .non | exact key _ _ pe_bl fun _ _ => .bl _ | exact key _ _ pe_int fun _ _ => .int _ | exact key _ _ pe_str fun _ _ => .str _) | cases h1
  | Name x p =>
    simp only [cE] at h
    exact pr_of (cName_ok C hs h)
  | BinOp a op b p =>
    simp only [cE, Option.bind_eq_some_iff, Option.map_eq_some_iff] at h
    obtain ⟨o, h0, a1, h1, b1, h2, rfl⟩ := h
    exact (pr_of (n_bin (bin_ok h0) (hE X W false sc a a1 C hs h1).pe (hE X W false sc b b1 C hs h2).pe)).cast fun sl h => by simp only [ev] <;> rfl
  | UnaryOp op a p =>
    cases op <;> simp only [cE, reduceCtorEq, Option.map_eq_some_iff] at h
    · obtain ⟨a1, h1, rfl⟩ := h
      exact (n_not (hE X W false sc a a1 C hs h1)).cast fun sl h => by simp only [ev] <;> rfl
    · obtain ⟨a1, h1, rfl⟩ := h
      exact (pr_of (n_neg (hE X W false sc a a1 C hs h1).pe)).cast fun sl h => by simp only [ev] <;> rfl
  | BoolOp op vs p =>
    simp only [cE] at h
    exact (hB X W op sc vs e' C hs h).pr
  | Compare a ops bs p =>
    match ops, bs, h with
    | [op], [b], h =>
      simp only [cE, Option.bind_eq_some_iff, Option.map_eq_some_iff] at h
      obtain ⟨a1, h1, b1, h2, rfl⟩ := h
      have hm : behindInMarks op b = false := marks_in (cE_noSet h2).1
      have p1 := hE X W false sc a a1 C hs h1
      have p2 := hE X W false sc b b1 C hs h2
      have ho := hcmp X W C op
      exact Pr.cast ⟨n_cmp ho hm p1.pe p2.pe, nt_cmp (isB_cmpE op) ho hm p1.pe p2.pe⟩ fun sl h => by simp only [ev] <;> rfl
    | [o1, o2], [b, c], h =>
      simp only [cE, Option.bind_eq_some_iff, Option.map_eq_some_iff] at h
      obtain ⟨a1, h1, b1, h2, c1, h3, rfl⟩ := h
      have hm : behindInMarks o2 c = false := marks_in (cE_noSet h3).1
      exact (n_chn (cmp_ok C.c.units o1) (cmp_ok C.c.units o2) (isB_cmp _) (isB_cmp _) hm (hE X W false sc a a1 C hs h1).pe (hE X W false sc b b1 C hs h2).pe (hE X W false sc c c1 C hs h3).pe).cast fun sl h => by simp only [ev] <;> rfl
    | [], _, h => simp only [cE, reduceCtorEq] at h
    | [_], [], h => simp only [cE, reduceCtorEq] at h
    | [_], _ :: _ :: _, h => simp only [cE, reduceCtorEq] at h
    | [_, _], [], h => simp only [cE, reduceCtorEq] at h
    | [_, _], [_], h => simp only [cE, reduceCtorEq] at h
    | [_, _], _ :: _ :: _ :: _, h => simp only [cE, reduceCtorEq] at h
    | _ :: _ :: _ :: _, _, h => simp only [cE, reduceCtorEq] at h
  | IfExp t a b p =>
    simp only [cE, Option.bind_eq_some_iff, Option.map_eq_some_iff] at h
    obtain ⟨t1, h0, a1, h1, b1, h2, rfl⟩ := h
    exact (n_ite (hE X W false sc t t1 C hs h0) (hE X W false sc a a1 C hs h1) (hE X W false sc b b1 C hs h2)).cast fun sl h => by simp only [ev] <;> rfl
  | Tuple es k0 p =>
    simp only [cE, Option.map_eq_some_iff] at h
    obtain ⟨es1, h1, rfl⟩ := h
    exact (pr_of (n_tup (hEs X W false sc es es1 C hs h1).1)).cast fun sl h => by simp only [ev] <;> rfl
  | List es p =>
    simp only [cE, Option.map_eq_some_iff] at h
    obtain ⟨es1, h1, rfl⟩ := h
    exact (pr_of (n_lst (hEs X W false sc es es1 C hs h1).1)).cast fun sl h => by simp only [ev] <;> rfl
  | Dict ks vs p =>
    simp only [cE] at h
    split at h
    · rename_i hns
      simp only [Option.bind_eq_some_iff] at h
      obtain ⟨kn, h1, vs1, h2, h3⟩ := h
      split at h3
      · rename_i hc
        simp only [Option.some.injEq] at h3
        subst h3
        obtain ⟨c1, c2, c3, c4, c5⟩ := hc
        have pd := (hEs X W false sc vs vs1 C hs h2).2.2 hns p ks kn h1 c1
        have hall : ks.all (·.isSome) = true := by
          clear pd c1 c2 c3
          induction ks generalizing kn with
          | nil => rfl
          | cons o r ih =>
            unfold cKeys at h1
            split at h1
            · rename_i heq; cases heq
            · rename_i x j p2 r' heq
              simp only [List.cons.injEq] at heq
              obtain ⟨rfl, rfl⟩ := heq
              rw [Option.map_eq_some_iff] at h1
              obtain ⟨kn', h1', rfl⟩ := h1
              rw [List.all_cons, ih kn' h1' (by simp at c4; omega) (List.nodup_cons.mp c5).2]
              rfl
            · cases h1
        exact (pr_of (n_dic pd hall c1 c2 c3 c4 c5)).cast fun sl h => by simp only [ev] <;> rfl
      · cases h3
    · cases h
  | Subscript a s p =>
    cases s with
    | Slice l u st p2 =>
      match l, u, st, h with
      | none, none, some (.UnaryOp .USub (.Constant (.int 1) _ _) _), h =>
        simp only [cE, Option.map_eq_some_iff] at h
        obtain ⟨a1, h1, rfl⟩ := h
        exact (pr_of (n_rev (hE X W false sc a a1 C hs h1).pe)).cast fun sl h => by simp only [ev] <;> rfl
      | some l, none, none, h =>
        simp only [cE, Option.bind_eq_some_iff, Option.map_eq_some_iff] at h
        obtain ⟨a1, h1, b1, h2, rfl⟩ := h
        exact (pr_of (n_slF (hE X W false sc a a1 C hs h1).pe (hE X W false sc l b1 C hs h2).pe)).cast fun sl h => by simp only [ev] <;> rfl
      | none, some u, none, h =>
        simp only [cE, Option.bind_eq_some_iff, Option.map_eq_some_iff] at h
        obtain ⟨a1, h1, b1, h2, rfl⟩ := h
        exact (pr_of (n_slT (hE X W false sc a a1 C hs h1).pe (hE X W false sc u b1 C hs h2).pe)).cast fun sl h => by simp only [ev] <;> rfl
      | some l, some u, none, h =>
        simp only [cE, Option.bind_eq_some_iff, Option.map_eq_some_iff] at h
        obtain ⟨a1, h1, b1, h2, c1, h3, rfl⟩ := h
        exact (pr_of (n_slB (hE X W false sc a a1 C hs h1).pe (hE X W false sc l b1 C hs h2).pe (hE X W false sc u c1 C hs h3).pe)).cast fun sl h => by simp only [ev] <;> rfl
      | none, none, none, h => simp only [cE, reduceCtorEq] at h
      | some _, none, some _, h => simp only [cE, reduceCtorEq] at h
      | none, some _, some _, h => simp only [cE, reduceCtorEq] at h
      | some _, some _, some _, h => simp only [cE, reduceCtorEq] at h
      | none, none, some st, h =>
        unfold cE at h
        simp only at h
        split at h
        · rename_i heq
          cases heq
          rw [Option.map_eq_some_iff] at h
          obtain ⟨a1, h1, rfl⟩ := h
          exact (pr_of (n_rev (hE X W false sc a a1 C hs h1).pe)).cast fun sl h => by simp only [ev] <;> rfl
        · rename_i heq; cases heq
        · rename_i heq; cases heq
        · rename_i heq; cases heq
        · cases h
    | _ =>
      simp only [cE, Option.bind_eq_some_iff, Option.map_eq_some_iff] at h
      obtain ⟨a1, h1, b1, h2, rfl⟩ := h
      exact (pr_of (n_ix C.c.units1 (plainIx_of (cE_noSet h2).2.1) (hE X W false sc a a1 C hs h1).pe (hE X W false sc _ b1 C hs h2).pe)).cast fun sl h => by simp only [ev] <;> rfl
  | Attribute a f p =>
    simp only [cE] at h
    split at h
    · rename_i hb
      rw [Option.map_eq_some_iff] at h
      obtain ⟨a1, h1, rfl⟩ := h
      exact (pr_of (n_fld C.c (noSup_base hb) (hE X W false sc a a1 C hs h1).pe)).cast fun sl h => by simp only [ev] <;> rfl
    · cases h
  | ListComp elt gens scope p =>
    exact pr_of (pe_comp hIt hIf hC C hs h)
  | DictComp kx vx gens scope p =>
    exact pr_of (pe_dcomp hE hIt hIf C hs h)
  | Call f as ks p => exact pr_of (call_ok hE hEs hKw C hs h)
  | _ => simp only [cE, reduceCtorEq] at h
/-- all of it -/
theorem snd_all (hcmp : ∀ (X : Cx) (W : WX), Cs P cp fad fdo pso F k X W → CmpOk P F X) : ∀ n, Cs.SE P cp fad fdo pso F k n ∧ Cs.SEs P cp fad fdo pso F k n ∧ Cs.SB P cp fad fdo pso F k n ∧ Cs.SKw P cp fad fdo pso F k n ∧ Cs.SIf P cp fad fdo pso F k n ∧ Cs.SIt P cp fad fdo pso F k n ∧ Cs.SC P cp fad fdo pso F k n
  | 0 => ⟨fun _ _ _ _ _ _ _ _ h => by simp only [cE, reduceCtorEq] at h, fun _ _ _ _ _ _ _ _ h => by simp only [cEs, reduceCtorEq] at h, fun _ _ _ _ _ _ _ _ h => by simp only [cB, reduceCtorEq] at h, fun _ _ _ _ _ _ _ h => by simp only [cKws, reduceCtorEq] at h,
      fun _ _ _ _ _ _ _ h => by simp only [cIfs, reduceCtorEq] at h, fun _ _ _ _ _ _ _ _ h => by simp only [cIt, reduceCtorEq] at h, fun _ _ _ _ _ _ _ _ _ _ _ _ _ _ _ h => by simp only [cCl, reduceCtorEq] at h⟩
  | n + 1 => by
    obtain ⟨h1, h2, h3, h4, h5, h6, h7⟩ := snd_all hcmp n
    exact ⟨step_E hcmp h1 h2 h3 h4 h6 h5 h7, step_Es h1 h2, step_B h1 h3, step_Kw h1 h4, step_If h1, step_It h1, step_C h1 h6 h5 h7⟩
end
end R
end

section
set_option Elab.async false
set_option linter.all false
set_option maxRecDepth 100000
set_option maxHeartbeats 8000000
/-! Statements. -/
namespace R
open PySem PySem.Spec PyProof.Rows L2
/-- what follows a statement -/
def GoodO (K : PySem.W.Frag) (W : WX) (ρ : Tr) (H : Hp) (r : Out) (D : Ends) : Prop := match r with
  | .nx sl h => ∀ ρ' σ' H', Tr.Le ρ ρ' → Keep ρ ρ' H H' → Sim K ρ' h H' → RS K ρ' H' sl σ' → D.nx σ' H'
  | .bk sl h => ∀ ρ' σ' H', Tr.Le ρ ρ' → Keep ρ ρ' H H' → Sim K ρ' h H' → RS K ρ' H' sl σ' → D.bk σ' H'
  | .ct sl h => ∀ ρ' σ' H', Tr.Le ρ ρ' → Keep ρ ρ' H H' → Sim K ρ' h H' → RS K ρ' H' sl σ' → D.ct σ' H'
  | .rt x h => ∀ ρ' H' v, Tr.Le ρ ρ' → Keep ρ ρ' H H' → Sim K ρ' h H' → RP K ρ' H' x v → D.rt v H'
  | .er C as sl h => ∀ ρ' σ' H' d gs, Tr.Le ρ ρ' → Keep ρ ρ' H H' → Sim K ρ' h H' → RS K ρ' H' sl σ' → H' d = some (.xd gs) → KPs K ρ' H' as gs → W (.ref (He.ga K C)) (some d) σ' H'
  | .bad => False
def TsS (K : PySem.W.Frag) (W : WX) (m : Sl → PH → Out) : TS := fun D σ H => ∃ ρ sl h, At K ρ h H sl σ ∧ GoodO K W ρ H (m sl h) D
section
variable {K : PySem.W.Frag} {W : WX} {ρ ρ' : Tr} {H H' : Hp} {D : Ends} {σ : L2.St} {sl : Sl} {h : PH}
theorem GoodO.later {r : Out} (l : Tr.Le ρ ρ') (k : Keep ρ ρ' H H') (g : GoodO K W ρ H r D) : GoodO K W ρ' H' r D := by
  cases r with
  | nx => exact fun ρ2 σ2 H2 a b c d => g ρ2 σ2 H2 (l.trans a) (k.trans b) c d
  | bk => exact fun ρ2 σ2 H2 a b c d => g ρ2 σ2 H2 (l.trans a) (k.trans b) c d
  | ct => exact fun ρ2 σ2 H2 a b c d => g ρ2 σ2 H2 (l.trans a) (k.trans b) c d
  | rt => exact fun ρ2 H2 v a b c d => g ρ2 H2 v (l.trans a) (k.trans b) c d
  | er => exact fun ρ2 σ2 H2 d gs a b c e f g' => g ρ2 σ2 H2 d gs (l.trans a) (k.trans b) c e f g'
  | bad => exact g
theorem GoodO.nxt {s2 : Sl} (p : At K ρ h H s2 σ) (g : GoodO K W ρ H (.nx s2 h) D) : D.nx σ H := g ρ σ H (Tr.le_refl _) (Keep.refl _ _) p.sim p.rs
theorem TsS.step {m : M} {k : PV → PH → Out} {Q' : VK} (p : At K ρ h H sl σ) (g : GoodO K W ρ H ((m sl h).out sl k) D)
    (n : ∀ ρ' H' h' x v, Tr.Le ρ ρ' → Keep ρ ρ' H H' → At K ρ' h' H' sl σ → RP K ρ' H' x v → GoodO K W ρ' H' (k x h') D → Q' v H') : T K W m σ H Q' := by
  refine ⟨ρ, sl, h, p, ?_⟩
  cases e : m sl h with
  | ok x h' =>
    rw [e] at g
    exact fun ρ' H' v l kp s r => n ρ' H' h' x v l kp (p.later l kp s) r (GoodO.later l kp g)
  | er C as h' =>
    rw [e] at g
    exact fun ρ' H' d gs l kp s e1 e2 => g ρ' σ H' d gs l kp s (p.rs.mono l kp) e1 e2
  | bad => rw [e] at g; exact g
theorem TsS.stepB {m : Sl → PH → Rs Bool} {k : Bool → PH → Out} {Q' : Bool → Hp → Prop} (p : At K ρ h H sl σ) (g : GoodO K W ρ H ((m sl h).out sl k) D)
    (n : ∀ ρ' H' h' b, Tr.Le ρ ρ' → Keep ρ ρ' H H' → At K ρ' h' H' sl σ → GoodO K W ρ' H' (k b h') D → Q' b H') : TbR K W m σ H Q' := by
  refine ⟨ρ, sl, h, p, ?_⟩
  cases e : m sl h with
  | ok x h' =>
    rw [e] at g
    exact fun ρ' H' l kp s => n ρ' H' h' x l kp (p.later l kp s) (GoodO.later l kp g)
  | er C as h' =>
    rw [e] at g
    exact fun ρ' H' d gs l kp s e1 e2 => g ρ' σ H' d gs l kp s (p.rs.mono l kp) e1 e2
  | bad => rw [e] at g; exact g
theorem TsS.stepL {m : Ms} {k : List PV → PH → Out} {Q' : List V → Hp → Prop} (p : At K ρ h H sl σ) (g : GoodO K W ρ H ((m sl h).out sl k) D)
    (n : ∀ ρ' H' h' x v, Tr.Le ρ ρ' → Keep ρ ρ' H H' → At K ρ' h' H' sl σ → RPs K ρ' H' x v → GoodO K W ρ' H' (k x h') D → Q' v H') : TsR K W m σ H Q' := by
  refine ⟨ρ, sl, h, p, ?_⟩
  cases e : m sl h with
  | ok x h' =>
    rw [e] at g
    exact fun ρ' H' v l kp s r => n ρ' H' h' x v l kp (p.later l kp s) r (GoodO.later l kp g)
  | er C as h' =>
    rw [e] at g
    exact fun ρ' H' d gs l kp s e1 e2 => g ρ' σ H' d gs l kp s (p.rs.mono l kp) e1 e2
  | bad => rw [e] at g; exact g
end
section
variable {P : Pg} {cp : CP} {F : FF} {fad : Str → Addr} {fdo : Str → FuncData} {pso : Str → List Str} {k : Nat} {n : Nat}
variable {X : Cx} {W : WX} {e c : Expr} {me mo mi : M} {ms : Ms} {pos p : Pos}
/-- no comprehension -/
def noComp : Expr → Bool
  | .ListComp .. => false
  | .SetComp .. => false
  | .DictComp .. => false
  | _ => true
theorem sw_no {e : Expr} {t : Option Expr} {l : Nat} {env : Env} (h : noComp e = true) : swapsWith e t l env = pure false := by
  cases e <;> first | rfl | cases h
theorem sw_nl {e : Expr} {x : Str} {p : Pos} {l : Nat} {env : Env} (h : env.scope.names.lookup x ≠ some .local) : swapsWith e (some (.Name x p)) l env = pure false := by
  have hk : (env.kindOf x == some .local) = false := by
    have : env.kindOf x = env.scope.names.lookup x := rfl
    rw [this]
    cases hl : env.scope.names.lookup x with
    | none => rfl
    | some k =>
      rw [hl] at h
      cases k <;> first | rfl | exact absurd rfl h
  cases e <;> first
    | rfl
    | (unfold swapsWith; simp only [hk, Bool.and_false, Bool.false_and] <;> rfl)
theorem s_setC {x : Str} {i : Nat} (hN : X.N.Nodup) (hi : X.N[i]? = some x) (hx : Loc X.env.scope x) (hf : X.fn x = true ∨ X.env.scope.names.lookup x = some .local) (hc : X.env.scope.names.lookup x ≠ some .local) (he : PE X e (T X.K W me)) :
    PS X (.Assign [.Name x p] e pos) (TsS X.K W fun sl h => (me sl h).out sl fun v h => .nx (sl.set i (some v)) h) :=
  PS.weak (ps_set hN hi hx he (sw_nl hc) hf) fun D σ H ⟨ρ, sl, h, A, g⟩ => TsS.step A g fun ρ1 H1 h1 x v l k A1 r g1 => GoodO.nxt ⟨A1.sim, A1.rs.set i r⟩ g1
theorem s_set {x : Str} {i : Nat} (hN : X.N.Nodup) (hi : X.N[i]? = some x) (hx : Loc X.env.scope x) (hf : X.fn x = true ∨ X.env.scope.names.lookup x = some .local) (hc : noComp e = true) (he : PE X e (T X.K W me)) :
    PS X (.Assign [.Name x p] e pos) (TsS X.K W fun sl h => (me sl h).out sl fun v h => .nx (sl.set i (some v)) h) :=
  PS.weak (ps_set hN hi hx he (sw_no hc) hf) fun D σ H ⟨ρ, sl, h, A, g⟩ => TsS.step A g fun ρ1 H1 h1 x v l k A1 r g1 => GoodO.nxt ⟨A1.sim, A1.rs.set i r⟩ g1
theorem s_unp {ts : List Expr} {is : List Nat} {kk : Nat} {tp : Pos} (hc : X.calm = true) (hN : X.N.Nodup) (t : Tok0 X X.env.scope) (ht : ts.mapM (cTg1 X.N X.env.scope) = some is) (hw : swappedStores [.Tuple ts kk tp] e X.env = pure none) (hcm : noComp e = true) (he : PE X e (T X.K W me)) :
    PS X (.Assign [.Tuple ts kk tp] e pos) (TsS X.K W fun sl h => (me sl h).out sl fun v h => match asgV (.many is) v h sl with
    | some s => .nx s h
    | none => .bad) := by
  have hg : PG X (.Tuple ts kk tp) (gR X.K (.many is)) := pg_ok hc hN t (by show (ts.mapM (cTg1 X.N X.env.scope)).map Tg.many = some (.many is); rw [ht]; rfl)
  have hsw : swapsWithSole [.Tuple ts kk tp] e pos.line X.env = pure false := by
    unfold swapsWithSole
    exact sw_no hcm
  refine PS.weak (ps_asg he hg hsw hw) fun D σ H ⟨ρ, sl, h, A, g⟩ => TsS.step A g fun ρ1 H1 h1 x v l k A1 r g1 => ?_
  cases ea : asgV (.many is) x h1 sl with
  | none => rw [ea] at g1; exact g1.elim
  | some s2 =>
    rw [ea] at g1
    exact ⟨ρ1, h1, sl, .one x, s2, A1, .one r, ea, fun vs rs => GoodO.nxt ⟨A1.sim, rs⟩ g1⟩
theorem s_exp (hcm : noComp e = true) (he : PE X e (T X.K W me)) : PS X (.Expr e pos) (TsS X.K W fun sl h => (me sl h).out sl fun _ h => .nx sl h) :=
  PS.weak (ps_expr he (sw_no hcm)) fun D σ H ⟨ρ, sl, h, A, g⟩ => TsS.step A g fun ρ1 H1 h1 x v l k A1 r g1 => g1.nxt A1
theorem s_ret (he : PE X e (T X.K W me)) : PS X (.Return (some e) pos) (TsS X.K W fun sl h => (me sl h).out sl fun v h => .rt v h) :=
  PS.weak (ps_ret he) fun D σ H ⟨ρ, sl, h, A, g⟩ => TsS.step A g fun ρ1 H1 h1 x v l k A1 r g1 => g1 ρ1 H1 v (Tr.le_refl _) (Keep.refl _ _) A1.sim r
theorem s_retN : PS X (.Return none pos) (TsS X.K W fun _ h => .rt .non h) := PS.weak ps_retN fun D σ H ⟨ρ, sl, h, A, g⟩ => g ρ H .non (Tr.le_refl _) (Keep.refl _ _) A.sim .non
theorem s_pass : PS X (.Pass pos) (TsS X.K W fun sl h => .nx sl h) := PS.weak ps_pass fun D σ H ⟨ρ, sl, h, A, g⟩ => GoodO.nxt A g
theorem s_brk : PS X (.Break pos) (TsS X.K W fun sl h => .bk sl h) := PS.weak ps_break fun D σ H ⟨ρ, sl, h, A, g⟩ => g ρ σ H (Tr.le_refl _) (Keep.refl _ _) A.sim A.rs
theorem s_cont : PS X (.Continue pos) (TsS X.K W fun sl h => .ct sl h) := PS.weak ps_continue fun D σ H ⟨ρ, sl, h, A, g⟩ => g ρ σ H (Tr.le_refl _) (Keep.refl _ _) A.sim A.rs
theorem ss_nil : PSs X [] (TsS X.K W fun sl h => .nx sl h) := PSs.weak pss_nil fun D σ H ⟨ρ, sl, h, A, g⟩ => GoodO.nxt A g
/-- the slots of another place -/
theorem At.of {K : PySem.W.Frag} {ρ : Tr} {h : PH} {H : Hp} {sl : Sl} {σ : L2.St} (S : Sim K ρ h H) (r : RS K ρ H sl σ) : At K ρ h H sl σ := ⟨S, r⟩
theorem ss_cons {st : Stmt} {rest : List Stmt} {m1 m2 : Sl → PH → Out} (h1 : PS X st (TsS X.K W m1)) (h2 : PSs X rest (TsS X.K W m2)) : PSs X (st :: rest) (TsS X.K W fun sl h => (m1 sl h).bind fun sl h => m2 sl h) := by
  refine PSs.weak (pss_cons h1 h2) fun D σ H ⟨ρ, sl, h, A, g⟩ => ⟨ρ, sl, h, A, ?_⟩
  dsimp only at g
  cases e : m1 sl h with
  | nx s2 h2 => rw [e] at g; exact fun ρ' σ' H' l k S r => ⟨ρ', s2, h2, ⟨S, r⟩, g.later l k⟩
  | rt v h2 => rw [e] at g; exact g
  | bk s2 h2 => rw [e] at g; exact g
  | ct s2 h2 => rw [e] at g; exact g
  | er C as s2 h2 => rw [e] at g; exact g
  | bad => rw [e] at g; exact g
theorem s_if {a b : List Stmt} {mt : Sl → PH → Rs Bool} {ma mb : Sl → PH → Out} (hc : PT X c (TbR X.K W mt)) (ha : PSs X a (TsS X.K W ma)) (hb : PSs X b (TsS X.K W mb)) : PS X (.If c a b pos) (TsS X.K W fun sl h => (mt sl h).out sl fun t h => match t with
    | true => ma sl h
    | false => mb sl h) :=
  PS.weak (ps_if hc ha hb) fun D σ H ⟨ρ, sl, h, A, g⟩ => TsS.stepB A g fun ρ1 H1 h1 b l k A1 g1 => by
    cases b with
    | true => rw [if_pos rfl]; exact ⟨ρ1, sl, h1, A1, g1⟩
    | false => rw [if_neg Bool.false_ne_true]; exact ⟨ρ1, sl, h1, A1, g1⟩
/-- while: the turns that are left -/
theorem s_while {b : List Stmt} {mt : Sl → PH → Rs Bool} {mb : Sl → PH → Out} (hp : PassesOwn (model X.prog X.w) X.A X.env X.xe) (hc : PT X c (TbR X.K W mt)) (hb : PSs X b (TsS X.K W mb)) : PS X (.While c b [] pos) (TsS X.K W fun sl h => whlGo mt mb WF sl h) := by
  refine PS.weak (ps_while hp hc hb) fun D σ H ⟨ρ, sl, h, A, g⟩ => ?_
  refine ⟨fun m σ1 H1 => ∃ ρ1 s1 h1, Tr.Le ρ ρ1 ∧ Keep ρ ρ1 H H1 ∧ At X.K ρ1 h1 H1 s1 σ1 ∧ GoodO X.K W ρ1 H1 (whlGo mt mb m s1 h1) D, ⟨WF, ρ, sl, h, Tr.le_refl _, Keep.refl _ _, A, g⟩, ?_⟩
  rintro m σ1 H1 ⟨ρ1, s1, h1, l1, k1, A1, g1⟩
  cases m with
  | zero => exact g1.elim
  | succ m =>
    simp only [whlGo] at g1
    refine TsS.stepB A1 g1 fun ρ2 H2 h2 t l2 k2 A2 g2 => ?_
    cases t with
    | false =>
      rw [if_neg Bool.false_ne_true]
      exact GoodO.nxt A2 g2
    | true =>
      rw [if_pos rfl]
      refine ⟨fun σ' H' => ∃ ρ' s' h', Tr.Le ρ ρ' ∧ Keep ρ ρ' H H' ∧ At X.K ρ' h' H' s' σ' ∧ GoodO X.K W ρ' H' (whlGo mt mb m s' h') D, fun σ' H' q => ⟨m, Nat.lt_succ_self _, q⟩, ρ2, s1, h2, A2, ?_⟩
      simp only at g2
      have L2 := l1.trans l2
      have K2 := k1.trans k2
      cases e : mb s1 h2 with
      | nx s3 h3 => rw [e] at g2; exact fun ρ' σ' H' l k S r => ⟨ρ', s3, h3, L2.trans l, K2.trans k, ⟨S, r⟩, g2.later l k⟩
      | ct s3 h3 => rw [e] at g2; exact fun ρ' σ' H' l k S r => ⟨ρ', s3, h3, L2.trans l, K2.trans k, ⟨S, r⟩, g2.later l k⟩
      | bk s3 h3 => rw [e] at g2; exact fun ρ' σ' H' l k S r => GoodO.nxt ⟨S, r⟩ (g2.later l k)
      | rt v h3 => rw [e] at g2; exact g2
      | er C as s3 h3 => rw [e] at g2; exact g2
      | bad => rw [e] at g2; exact g2
theorem s_for {tg iter : Expr} {b : List Stmt} {tgt : Tg} {mit : Sl → PH → Rs Src} {mb : Sl → PH → Out} (hp : PassesOwn (model X.prog X.w) X.A X.env X.xe) (hc : X.calm = true) (hi : PI X tg iter (TiR X.K W mit)) (hg : PG X tg (gR X.K tgt)) (hb : PSs X b (TsS X.K W mb)) (hs : ∀ x, foldedSetIterable iter X.env x = pure x) :
    PS X (.For tg iter b [] pos) (TsS X.K W fun sl h => (mit sl h).out sl fun src h => match src.len h with
    | some n => forGo src tgt mb n 0 sl h
    | none => .bad) := by
  refine PS.weak (ps_for hp hc hi hg hb hs) fun D σ H ⟨ρ, sl, h, A, g⟩ => ?_
  refine ⟨ρ, sl, h, A, ?_⟩
  dsimp only at g
  cases em : mit sl h with
  | bad => rw [em] at g; exact g
  | er C as h1 => rw [em] at g; exact fun ρ' H' d gs l kp s e1 e2 => g ρ' σ H' d gs l kp s (A.rs.mono l kp) e1 e2
  | ok src h1 =>
    rw [em] at g
    intro ρ1 H1 l1 k1 S1 J fol
    have A1 := A.later l1 k1 S1
    have g1 : GoodO X.K W ρ1 H1 (match src.len h1 with
      | some n => forGo src tgt mb n 0 sl h1
      | none => .bad) D := GoodO.later l1 k1 g
    cases en : src.len h1 with
    | none => rw [en] at g1; exact g1.elim
    | some n =>
      rw [en] at g1
      simp only at g1
      refine ⟨fun i m σ2 H2 => ∃ ρ2 s2 h2, Tr.Le ρ1 ρ2 ∧ Keep ρ1 ρ2 H1 H2 ∧ At X.K ρ2 h2 H2 s2 σ2 ∧ GoodO X.K W ρ2 H2 (forGo src tgt mb m i s2 h2) D, ⟨n, ρ1, sl, h1, Tr.le_refl _, Keep.refl _ _, A1, g1⟩, ?_⟩
      rintro i m σ2 H2 ⟨ρ2, s2, h2, l2, k2, A2, g2⟩
      have fj := fol ρ2 H2 h2 (.of l2 k2) A2.sim i
      have stopped : (src.len h2).any (· ≤ i) = true → GoodO X.K W ρ2 H2 (.nx s2 h2) D → J.stop i H2 ∧ D.nx σ2 H2 := fun hb g => by
        obtain ⟨n', hs, hle⟩ := stopI hb
        exact ⟨fj.2 n' hs hle, GoodO.nxt A2 g⟩
      cases m with
      | zero =>
        simp only [forGo] at g2
        split at g2
        · rename_i hb; exact .inl (stopped hb g2)
        · exact g2.elim
      | succ m =>
        simp only [forGo] at g2
        cases eg : src.get h2 i with
        | none =>
          rw [eg] at g2
          simp only at g2
          split at g2
          · rename_i hb; exact .inl (stopped hb g2)
          · exact g2.elim
        | some itm =>
          rw [eg] at g2
          simp only at g2
          obtain ⟨go, yl⟩ := fj.1 itm eg
          refine .inr ⟨go, fun σ' H' => ∃ ρ' s' h', Tr.Le ρ1 ρ' ∧ Keep ρ1 ρ' H1 H' ∧ At X.K ρ' h' H' s' σ' ∧ GoodO X.K W ρ' H' (forGo src tgt mb m (i + 1) s' h') D, fun σ' H' q => ⟨m, Nat.lt_succ_self _, q⟩, fun x H3 hy => ?_⟩
          obtain ⟨ext, ri⟩ := yl x H3 hy
          have kx : Keep ρ2 ρ2 H2 H3 := .of_same ext
          cases ea : asg tgt itm h2 s2 with
          | none => rw [ea] at g2; exact g2.elim
          | some s3 =>
            rw [ea] at g2
            simp only at g2
            refine ⟨ρ2, h2, s2, itm, s3, ⟨A2.sim.grow ext, A2.rs.mono (Tr.le_refl _) kx⟩, ri, ea, fun vs rs => ⟨ρ2, s3, h2, ⟨A2.sim.grow ext, rs⟩, ?_⟩⟩
            have g3 := g2.later (Tr.le_refl _) kx
            have K3 := k2.trans kx
            cases e : mb s3 h2 with
            | nx s4 h3 => rw [e] at g3; exact fun ρ' σ' H' l k S r => ⟨ρ', s4, h3, l2.trans l, K3.trans k, ⟨S, r⟩, g3.later l k⟩
            | ct s4 h3 => rw [e] at g3; exact fun ρ' σ' H' l k S r => ⟨ρ', s4, h3, l2.trans l, K3.trans k, ⟨S, r⟩, g3.later l k⟩
            | bk s4 h3 => rw [e] at g3; exact fun ρ' σ' H' l k S r => GoodO.nxt ⟨S, r⟩ (g3.later l k)
            | rt v h3 => rw [e] at g3; exact g3
            | er C as s4 h3 => rw [e] at g3; exact g3
            | bad => rw [e] at g3; exact g3
end
end R
end

section
set_option Elab.async false
set_option linter.all false
set_option maxRecDepth 100000
set_option maxHeartbeats 8000000
/-! More statements. -/
namespace R
open PySem PySem.Spec PyProof.Rows L2
section
variable {P : Pg} {cp : CP} {F : FF} {fad : Str → Addr} {fdo : Str → FuncData} {pso : Str → List Str} {k : Nat} {n : Nat}
variable {X : Cx} {W : WX} {e c o i : Expr} {me mo mi : M} {ms : Ms} {pos p p2 : Pos}
/-- name = [.. for ..] on one line -/
theorem s_setLc (hIt : Cs.SIt P cp fad fdo pso F k n) (hIf : Cs.SIf P cp fad fdo pso F k n) (hC : Cs.SC P cp fad fdo pso F k n) (C : Cs P cp fad fdo pso F k X W) {sc scope : Scope} (hs : X.env.scope = sc) {elt : Expr} {gens : List Comprehension} {y : Str} {j : Nat} {py vp : Pos} {e' : E}
    (hy : X.N[j]? = some y) (hyl : X.env.scope.names.lookup y = some .local) (hl : (py.line == vp.line) = true) (ha : (scope.names.any fun (n, k) => n == y && (k == .local || k == .cell)) = false) (h : cE cp X.N (n + 1) false sc (.ListComp elt gens scope vp) = some e') :
    PS X (.Assign [.Name y py] (.ListComp elt gens scope vp) pos) (TsS X.K W fun sl h => (ev P F e' sl h).out sl fun v h => .nx (sl.set j (some v)) h) := by
  refine ⟨fun pins s σ H D I ⟨ρ, sl, h0, A, g⟩ => ?_⟩
  rw [exec_Assign_Name_used _ _ _ _ (sw_true I.ok.kind hyl hl ha)]
  refine wpAny_bind (wpAny_standAt (wpAny_bind ?_))
  show wpAny _ X.A (do let _ ← comprehension (.ListComp elt gens scope vp) scope X.env (firstIterPos gens vp) (newList []) (firstAsync gens) (firstIter gens X.env) (some (assign (.Name y py) X.env))) _ _ s
  have hT : T X.K W (ev P F e') σ H (fun x H1 => gName j x σ H1 D.nx) := TsS.step A g fun ρ1 H1 h1 x v l k A1 r g1 => GoodO.nxt ⟨A1.sim, A1.rs.set j r⟩ g1
  refine wpAny_bind (thn (lcm_ok (Qf := fun _ s' => SP X pins D .next s') hIt hIf hC C hs h I hT fun L Ca s' m H' I' q hn f => ?_) fun _ s' hq => wpAny_pure (wpAny_pure hq))
  show wpAny _ _ (assign (.Name y py) X.env (.ref L)) _ _ _
  refine wpAny_assign_Name (store_ok2 (v := V.ref L) I' C.c.nd hy (.inl hyl) rfl (fun s2 I2 ⟨a, sb, ha⟩ => ?_) (.inr hyl))
  obtain ⟨f0, f1, f2, f3, f4, f5⟩ := f
  have haC : Ca ≠ a := by
    rcases ha with z | z
    · rw [z]; exact f1
    · exact fun e => f4 y a z e.symm
  refine ⟨m, hn.sameBut sb haC, fun h3 sb3 => ?_⟩
  exact ⟨_, H', I2.turned (t' := s2.toks) (fun b o hb e => (sb3.2 b hb).trans e) f0 f1 f3 f4 f5, q⟩
theorem s_par2 {x y : Str} {a b : Expr} {i j : Nat} {px py pt : Pos} {kt : Nat} {k2 : Nat} {pt2 : Pos} (hc : X.calm = true) (hN : X.N.Nodup) (hi : X.N[i]? = some x) (hj : X.N[j]? = some y) (hij : i ≠ j)
    (hx : X.env.scope.names.lookup x = some .local) (hy : X.env.scope.names.lookup y = some .local) (ha : PA X [a, b] (TsR X.K W ms)) (hw : swappedStores [.Tuple [.Name x px, .Name y py] kt pt] (.Tuple [a, b] k2 pt2) X.env = pure (some [x, y])) :
    PS X (.Assign [.Tuple [.Name x px, .Name y py] kt pt] (.Tuple [a, b] k2 pt2) pos) (TsS X.K W fun sl h => (ms sl h).out sl fun l h => if l.length = [i, j].length then .nx (setAll [i, j] l sl) h else .bad) :=
  PS.weak (ps_par hc hN hi hj hij hx hy ha hw) fun D σ H ⟨ρ, sl, h, A, g⟩ => TsS.stepL A g fun ρ1 H1 h1 l vs l1 k1 A1 r g1 => by
    split at g1
    · rename_i hl
      match l, vs, r, hl with
      | [u, v], _, .cons r1 (.cons r2 .nil), _ => exact ⟨_, _, rfl, GoodO.nxt ⟨A1.sim, (A1.rs.set i r1).set j r2⟩ g1⟩
    · exact g1.elim
theorem s_par3 {x y z : Str} {a b c : Expr} {i j l : Nat} {px py pz pt : Pos} {kt : Nat} {k2 : Nat} {pt2 : Pos} (hc : X.calm = true) (hN : X.N.Nodup) (hi : X.N[i]? = some x) (hj : X.N[j]? = some y) (hl : X.N[l]? = some z) (hij : i ≠ j) (hil : i ≠ l) (hjl : j ≠ l)
    (hx : X.env.scope.names.lookup x = some .local) (hy : X.env.scope.names.lookup y = some .local) (hz : X.env.scope.names.lookup z = some .local) (ha : PA X [a, b, c] (TsR X.K W ms)) (hw : swappedStores [.Tuple [.Name x px, .Name y py, .Name z pz] kt pt] (.Tuple [a, b, c] k2 pt2) X.env = pure (some [x, y, z])) :
    PS X (.Assign [.Tuple [.Name x px, .Name y py, .Name z pz] kt pt] (.Tuple [a, b, c] k2 pt2) pos) (TsS X.K W fun sl h => (ms sl h).out sl fun l' h => if l'.length = [i, j, l].length then .nx (setAll [i, j, l] l' sl) h else .bad) :=
  PS.weak (ps_par3 hc hN hi hj hl hij hil hjl hx hy hz ha hw (by unfold swapsWithSole; rfl)) fun D σ H ⟨ρ, sl, h, A, g⟩ => TsS.stepL A g fun ρ1 H1 h1 l' vs l1 k1 A1 r g1 => by
    split at g1
    · rename_i hl
      match l', vs, r, hl with
      | [u, v, w], _, .cons r1 (.cons r2 (.cons r3 .nil)), _ => exact ⟨_, _, _, rfl, GoodO.nxt ⟨A1.sim, ((A1.rs.set i r1).set j r2).set l r3⟩ g1⟩
    · exact g1.elim
theorem putP_ok {K : PySem.W.Frag} {ρ : Tr} {H : Hp} {f : Str} {x : PV} {v : V} (r : RP K ρ H x v) : ∀ {fs : List (Str × PV)} {gs : List (Str × V)}, KPs K ρ H fs gs → KPs K ρ H (putP f x fs) (putF f v gs)
  | _, _, .nil => .cons ⟨rfl, r⟩ .nil
  | (a, p) :: fs, (b, q) :: gs, .cons h t => by
    obtain ⟨e1, e2⟩ := h
    have e1 : a = b := e1
    subst e1
    unfold putP putF
    by_cases e : a = f
    · rw [if_pos e, if_pos e]; exact .cons ⟨e.symm, r⟩ t
    · rw [if_neg e, if_neg e]; exact .cons ⟨rfl, e2⟩ (putP_ok r t)
theorem s_setF (C : Cs P cp fad fdo pso F k X W) {f : Str} (hcm : noComp e = true) (ho : PE X o (T X.K W mo)) (he : PE X e (T X.K W me)) : PS X (.Assign [.Attribute o f p] e pos) (TsS X.K W fun sl h => (me sl h).out sl fun v h => (mo sl h).out sl fun x h => match x with
    | .ref n => (match h[n]? with
      | some (.ins C fs) => if P.hasF C f && decide (fs.length < 100) then .nx sl (h.set n (.ins C (putP f v fs))) else .bad
      | _ => .bad)
    | _ => .bad) :=
  PS.weak (ps_fld ho he (sw_no hcm)) fun D σ H ⟨ρ, sl, h, A, g⟩ => TsS.step A g fun ρ1 H1 h1 y v l k A1 r g1 => TsS.step A1 g1 fun ρ2 H2 h2 x u l2 k2 A2 r2 g2 => by
    cases x <;> first | exact False.elim g2 | skip
    rename_i n
    dsimp only at g2
    split at g2
    · rename_i D fs e1
      split at g2
      · rename_i hf
        rw [Bool.and_eq_true] at hf
        obtain ⟨a, dx, gs, rfl, h3, h4, h5⟩ := r2.insAt A2.sim e1
        obtain ⟨c1, c2⟩ := C.c.fs.fld D f hf.1
        have hm : a ∈ ρ2 := (List.mem_of_getElem? h3 : a ∈ ρ2.l)
        have kw : Keep ρ2 ρ2 H2 (upd H2 a (.ins (He.ga X.K D) dx (putF f v gs))) := Keep.write h4 (fun _ _ z => nomatch z) hm
        have hl : fs.length = gs.length := Paired.length h5
        obtain ⟨S3, K3⟩ := A2.sim.write h3 (o := .ins D (putP f y fs)) (u := .ins (He.ga X.K D) dx (putF f v gs)) ⟨dx, _, upd_same, putP_ok ((r.mono l2 k2).mono (Tr.le_refl _) kw) (KPs.mono (Tr.le_refl _) kw h5)⟩
        refine ⟨a, _, dx, gs, rfl, h4, c1, c2, ?_, ?_⟩
        · have := of_decide_eq_true hf.2
          omega
        · exact g2 ρ2 σ _ (Tr.le_refl _) K3 S3 (A2.rs.mono (Tr.le_refl _) K3)
      · exact g2.elim
    · exact g2.elim
end
end R
end

section
set_option Elab.async false
set_option linter.all false
set_option maxRecDepth 100000
set_option maxHeartbeats 8000000
/-! Statements, compiled. -/
namespace R
open PySem PySem.Spec PyProof.Rows L2
section
variable {P : Pg} {cp : CP} {F : FF} {fad : Str → Addr} {fdo : Str → FuncData} {pso : Str → List Str} {k : Nat} {n : Nat}
variable {X : Cx} {W : WX} {e c o i : Expr} {me mo mi : M} {ms : Ms} {pos p p2 : Pos}
theorem s_setIx (hi : noSliceE i = true) (hcm : noComp e = true) (ho : PE X o (T X.K W mo)) (hi' : PE X i (T X.K W mi)) (he : PE X e (T X.K W me)) : PS X (.Assign [.Subscript o i p] e pos) (TsS X.K W fun sl h => (me sl h).out sl fun v h => (mo sl h).out sl fun x h => (mi sl h).out sl fun k h => match x, k with
    | .ref n, .int k => (match h[n]? with
      | some (.lst l) => (match ixN l.length k with
        | some j => .nx sl (h.set n (.lst (l.set j v)))
        | none => .bad)
      | _ => .bad)
    | _, _ => .bad) := by
  have ha : ∀ v, assign (.Subscript o i p) X.env v = (do
      let ov ← holding [v] (eval o X.env)
      let iv ← holding [v, ov] (eval i X.env)
      standAt p
      holding [v, ov, iv] (setItem ov iv v)
      release [v, ov, iv] []) := by
    intro v
    cases i <;> first | rfl | cases hi
  have hsw : swapsWithSole [.Subscript o i p] e pos.line X.env = pure false := by
    unfold swapsWithSole
    exact sw_no hcm
  have hw : swappedStores [.Subscript o i p] e X.env = pure none := rfl
  refine PS.weak (ps_asg he (pg_sub ho hi' set_list ha) hsw hw) fun D σ H ⟨ρ, sl, h, A, g⟩ => TsS.step A g fun ρ1 H1 h1 y v l k A1 r g1 => TsS.step A1 g1 fun ρ2 H2 h2 x u l2 k2 A2 r2 g2 => TsS.step A2 g2 fun ρ3 H3 h3 z w l3 k3 A3 r3 g3 => ?_
  cases x <;> cases z <;> first | exact False.elim g3 | skip
  rename_i n j
  dsimp only at g3
  split at g3
  · rename_i xs e1
    split at g3
    · rename_i j' hj
      obtain ⟨a, vs, rfl, h4, h5, h6⟩ := (r2.mono l3 k3).lstAt A3.sim e1
      cases r3
      have hm : a ∈ ρ3 := (List.mem_of_getElem? h4 : a ∈ ρ3.l)
      have kw : Keep ρ3 ρ3 H3 (upd H3 a (.lst (vs.set j' v))) := Keep.write h5 (fun _ _ z => nomatch z) hm
      have rv := (r.mono l2 k2).mono l3 k3
      obtain ⟨S4, K4⟩ := A3.sim.write h4 (o := .lst (xs.set j' y)) (u := .lst (vs.set j' v)) ⟨_, upd_same, (RPs.set rv j' h6).mono (Tr.le_refl _) kw⟩
      exact ⟨a, vs, j, j', rfl, rfl, h5, by rw [← h6.length]; exact hj, g3 ρ3 σ _ (Tr.le_refl _) K4 S4 (A3.rs.mono (Tr.le_refl _) K4)⟩
    · exact g3.elim
  · exact g3.elim
/-- which names a pair of tuples swaps: none said: not known -/
def swK (sc : Scope) (ts vs : List Expr) : Option (Option (List Str)) :=
  if !(ts.length == 2 || ts.length == 3) || vs.length != ts.length then some none
  else if vs.any isStar then some none
  else
    let line := (ts.head?.map (·.pos.line)).getD 0
    let names := ts.filterMap fun
      | .Name id pos => if sc.names.lookup id == some .local && pos.line == line then some id else none
      | _ => none
    if names.length != ts.length || names.eraseDups.length != names.length then some none
    else if vs.all (foldedForSure 8) then some none
    else if vs.all (constantsAlone 8) then none
    else some (some names)
theorem swK_ok {ts vs : List Expr} {k1 k2 : Nat} {p1 p2 : Pos} {env : Env} {r : Option (List Str)} (hk : env.scope.kind = .function) (h : swK env.scope ts vs = some r) : swappedStores [.Tuple ts k1 p1] (.Tuple vs k2 p2) env = pure r := by
  have hb : env.blockKind = .function := by unfold Env.blockKind; rw [hk]; rfl
  have hb2 : (env.blockKind != ScopeKind.function) = false := by rw [hb]; rfl
  unfold swK at h
  unfold swappedStores
  simp only [hb2, Bool.or_false]
  split at h
  · rename_i h1
    cases h
    exact if_pos h1
  · rename_i h1
    refine (if_neg h1).trans ?_
    split at h
    · rename_i h2
      cases h
      exact if_pos h2
    · rename_i h2
      refine (if_neg h2).trans ?_
      dsimp only at h ⊢
      split at h
      · rename_i h3
        cases h
        exact if_pos h3
      · rename_i h3
        refine (if_neg h3).trans ?_
        split at h
        · rename_i h4
          cases h
          exact if_pos h4
        · rename_i h4
          refine (if_neg h4).trans ?_
          split at h
          · cases h
          · rename_i h5
            cases h
            exact if_neg h5
end
end R
end

section
set_option Elab.async false
set_option linter.all false
set_option maxRecDepth 100000
set_option maxHeartbeats 8000000
/-! A slice of a list is put: xs[a:b] = ys. -/
namespace R
open PySem PySem.Spec PyProof.Rows L2
section
variable {prog : Program} {w : World} {A : Around} {E : Value → Shared → Prop} {s : Shared}
theorem bnd_run (a c n : Nat) (h : c ≤ n) (hac : a ≤ c) : sliceBounds (some (a : Int)) (some (c : Int)) none n = ((a : Int), (c : Int), 1) := by
  obtain ⟨h1, h2, h3⟩ := slice_bounds (some (a : Int)) (some (c : Int)) n
  have e1 : HT.sIx n 0 (some (a : Int)) = a := by simp only [HT.sIx]; rw [if_neg (by omega)]; omega
  have e2 : HT.sIx n n (some (c : Int)) = c := by simp only [HT.sIx]; rw [if_neg (by omega)]; omega
  rw [e1] at h1
  rw [e2] at h2
  exact Prod.ext h1 (Prod.ext h2 h3)
theorem set_slice {l sl r : Addr} {its new : Array Value} {n m : Nat} {vl vu : Value} {a c : Nat} {Q : Unit → Shared → Prop} (ol : s.heap.get? l = some { cls := .type "list", data := .seq its n }) (or : s.heap.get? r = some { cls := .type "list", data := .seq new m }) (hne : l ≠ r)
    (sO : s.heap.IsSliceOf sl vl vu .none) (p1 : IsPart vl (some (a : Int))) (p2 : IsPart vu (some (c : Int))) (hac : a ≤ c) (hc : c ≤ its.size) (hz : its.size + new.size ≤ sizeLine)
    (hQ : Q () { s with heap := s.heap.update l (Obj.mapSeq fun xs => xs.extract 0 a ++ new ++ xs.extract c xs.size) }) : wpAny (model prog w) A (setItem (.ref l) (.ref sl) (.ref r)) Q E s := by
  have tl : s.TypeIs (.ref l) "list" := ⟨_, ol, rfl⟩
  have tr : s.TypeIs (.ref r) "list" := ⟨_, or, rfl⟩
  obtain ⟨oS, e1, e2, e3⟩ := id sO
  have tS : s.TypeIs (.ref sl) "slice" := ⟨oS, e1, e2⟩
  unfold setItem
  try with_reducible refine wpAny_holding ?_
  first | refine wpAny_bind (wpAny_pure ?_) | skip
  refine wpAny_bind (wpAny_sequenceKey tl (by decide) ?_)
  refine wpAny_bind (wpAny_callSpecial?_slot (name := Str.ofString "__setitem__") tl slot_list_setitem (wpAny_call_entry slot_list_setitem tl entry_list_setitem ?_ (args_list_setitem _ _ _)))
  show wpAny _ _ (Builtin.List.listSubscript? (.ref sl) >>= _) _ _ s
  unfold Builtin.List.listSubscript?
  refine wpAny_bind (wpAny_bind (wpAny_specialOf tS slice_no_index ?_))
  simp only [Option.isNone_none, if_true]
  refine wpAny_pure ?_
  show wpAny _ _ (typeOf (.ref sl) >>= _) _ _ s
  refine wpAny_bind (wpAny_typeOf tS ?_)
  rw [if_neg (by decide)]
  rw [listSliceParts_eq]
  refine wpAny_bind (wpAny_bind (wpAny_field e1 e3 (x := .none) rfl (wpAny_bind (wpAny_listPart IsPart.none ?_))))
  rw [if_neg (by decide)]
  refine wpAny_bind (wpAny_field e1 e3 (x := vl) rfl (wpAny_bind (wpAny_listPart p1 ?_)))
  refine wpAny_bind (wpAny_field e1 e3 (x := vu) rfl (wpAny_bind (wpAny_listPart p2 (wpAny_pure ?_))))
  have same : Builtin.List.listSameRef (.ref l) (.ref r) = false := by
    show (l == r) = false
    simpa using hne
  rw [same]
  simp only [Bool.false_eq_true, if_false]
  have hsz : its.size ≤ sizeLine := by omega
  have items : ∀ {x : Addr} {v : Array Value} {j : Nat} {P : Array Value → Shared → Prop} {B : Around} {F : Value → Shared → Prop}, s.heap.get? x = some { cls := .type "list", data := .seq v j } → P v s → wpAny (model prog w) B (Builtin.List.listItems (.ref x)) P F s := fun e q => by
    unfold Builtin.List.listItems
    exact wpAny_bind (wpAny_seqItems e rfl (wpAny_pure q))
  refine wpAny_bind ?_
  · unfold Builtin.List.listAllItems
    refine wpAny_bind (wpAny_typeOf tr ?_)
    rw [if_pos (by decide)]
    refine items or ?_
    refine wpAny_bind (items ol ?_)
    refine wpAny_bind (wpAny_of_eq (sliceIndices_raw (some (a : Int)) (some (c : Int)) none its.size (by simp)) ?_)
    rw [bnd_run a c its.size hc hac]
    simp only [beq_self_eq_true, if_true]
    have hlong : Builtin.List.listTooLong (its.size + new.size) = false := by
      unfold Builtin.List.listTooLong
      exact decide_eq_false (by omega)
    rw [hlong]
    have em : ((max (a : Int) (c : Int)).toNat : Nat) = c := by omega
    rw [em, Int.toNat_natCast]
    simp only [Bool.false_eq_true, if_false]
    unfold Builtin.List.listUpdate
    first
      | refine wpAny_bind (wpAny_rule (wpAny_bind (wpAny_updateSeq ol rfl ?_ hsz (by simp; omega))))
      | refine wpAny_bind (wpAny_updateSeq ol rfl ?_ hsz (by simp; omega))
    exact wpAny_bind (wpAny_letGo (wpAny_pure ⟨.none, rfl, wpAny_pure hQ⟩))
end
/-- a slice object -/
def slO (p : Addr) (i j : Int) : HO := .ext fun h => ∃ vl vu, h.IsSliceOf p vl vu .none ∧ IsPart vl (some i) ∧ IsPart vu (some j)
section
variable {X : Cx} {W : WX} {e o lo hi : Expr} {me mo ml mh : M} {pos p p2 : Pos} {tl th : TE}
theorem slO_at {P : Program} {w : World} {H : Hp} {h : Heap} {q : Addr} {i j : Int} (hok : HOk P w H h) (e : H q = some (slO q i j)) : ∃ vl vu, h.IsSliceOf q vl vu .none ∧ IsPart vl (some i) ∧ IsPart vu (some j) := by
  have x : ObjOk P w H h q (.ext fun h => ∃ vl vu, h.IsSliceOf q vl vu .none ∧ IsPart vl (some i) ∧ IsPart vu (some j)) := hok q _ e
  exact x.1
theorem slO_ok {P : Program} {w : World} {H : Hp} {h : Heap} {q : Addr} {i j : Int} {vl vu : Value} (s : h.IsSliceOf q vl vu .none) (p1 : IsPart vl (some i)) (p2 : IsPart vu (some j)) : ObjOk P w H h q (slO q i j) := by
  obtain ⟨ob, h1, h2, h3⟩ := id s
  exact ⟨⟨vl, vu, s, p1, p2⟩, ⟨ob, h1⟩, fun g1 g2 ⟨a, b, ⟨oc, k1, k2, k3⟩, c, d⟩ st => ⟨a, b, ⟨oc, st _ k1, k2, k3⟩, c, d⟩⟩
theorem pe_slc (hl : PE X lo tl) (hh : PE X hi th) : PE X (.Slice (some lo) (some hi) none p2) (fun σ H Q => tl σ H fun x H1 => th σ H1 fun y H2 => ∃ i j, x = .int i ∧ y = .int j ∧ ∀ q, H2 q = none → Q (.ref q) (upd H2 q (slO q i j))) := by
  refine ⟨fun pins s σ H Q I h => ?_⟩
  refine wpAny_Slice (thn (hl.run pins s σ H _ I h) fun vl s1 ⟨x, H1, I1, r1, q1⟩ => thn (hh.run pins s1 σ H1 _ I1 q1) fun vh s2 ⟨y, H2, I2, r2, i, j, ex, ey, q2⟩ => ?_)
  subst ex ey
  obtain ⟨t1, rfl⟩ := r1
  obtain ⟨t2, rfl⟩ := r2
  rw [evalPart_none]
  refine wpAny_pure ?_
  have hf : H2 s2.heap.objs.size = none := I2.hok.fresh (Nat.le_refl _)
  exact ⟨.ref s2.heap.objs.size, _, I2.laid (t' := s2.toks) (fun b u e => Heap.get?_push_of_some _ e) (Nat.le_refl _) (slO_ok (Heap.IsSliceOf.new ..) (.int i t1) (.int j t2)), rfl, q2 _ hf⟩
/-- what is put where -/
def rSlS : V → V → V → Hp → (Hp → Prop) → Prop := fun o i v H Q => ∃ (a q b : Addr) (xs ys : List V) (n m : Nat), o = .ref a ∧ i = .ref q ∧ v = .ref b ∧ H a = some (.lst xs) ∧ H b = some (.lst ys) ∧ a ≠ b ∧ H q = some (slO q n m) ∧ n ≤ m ∧ m ≤ xs.length ∧ xs.length + ys.length ≤ sizeLine ∧
  Q (upd H a (.lst (xs.take n ++ ys ++ xs.drop m)))
theorem mapSeq_of {xs ys : Array Value} {n : Nat} (f : Array Value → Array Value) (e : f xs = ys) : Obj.mapSeq f { cls := .type "list", data := .seq xs n } = { cls := .type "list", data := .seq ys (if ys.size == xs.size then n else n + 1) } := by
  subst e
  rfl
theorem pset_sl : PSet X rSlS := by
  rintro pins s σ H o i v ov iv u Q I ro ri rv ⟨a, q, b, xs, ys, n, m, rfl, rfl, rfl, ha, hb, hab, hq, hnm, hm, hz, hQ⟩
  cases ro
  cases ri
  cases rv
  obtain ⟨its, k1, r1, o1, _⟩ := I.lst ha
  obtain ⟨jts, k2, r2, o2, _⟩ := I.lst hb
  obtain ⟨vl, vu, sO, p1, p2⟩ := slO_at I.hok hq
  have e1 := r1.length
  have e2 := r2.length
  refine set_slice o1 o2 hab sO p1 p2 hnm (by rw [List.size_toArray, ← e1]; exact hm) (by rw [List.size_toArray, List.size_toArray, ← e1, ← e2]; exact hz) ⟨_, ?_, hQ⟩
  have ea : (its.toArray.extract 0 n ++ jts.toArray ++ its.toArray.extract m its.toArray.size) = (its.take n ++ jts ++ its.drop m).toArray := by
    apply Array.ext'
    simp
    rw [List.take_of_length_le (by simp)]
  refine I.lstUpd (its' := its.take n ++ jts ++ its.drop m) (n' := if (its.take n ++ jts ++ its.drop m).toArray.size == its.toArray.size then k1 else k1 + 1) ha o1 ?_ ((r1.take n).append r2 |>.append (r1.drop m)) ?_ s.toks
  · exact mapSeq_of _ ea
  · simp only [List.length_append, List.length_take, List.length_drop]
    omega
/-- xs[a:b] = ys -/
theorem s_setSl (hcm : noComp e = true) (ho : PE X o (T X.K W mo)) (hl : PE X lo (T X.K W ml)) (hh : PE X hi (T X.K W mh)) (he : PE X e (T X.K W me)) :
    PS X (.Assign [.Subscript o (.Slice (some lo) (some hi) none p2) p] e pos) (TsS X.K W fun sl h => (me sl h).out sl fun v h => (mo sl h).out sl fun x h => (ml sl h).out sl fun a h => (mh sl h).out sl fun b h => match x, v, a, b with
    | .ref n, .ref m, .int a, .int c => if n = m then .bad else (match h[n]?, h[m]? with
      | some (.lst l), some (.lst r) => if 0 ≤ a ∧ a ≤ c ∧ c ≤ l.length ∧ l.length + r.length ≤ sizeL then .nx sl (h.set n (.lst (l.take a.toNat ++ r ++ l.drop c.toNat))) else .bad
      | _, _ => .bad)
    | _, _, _, _ => .bad) := by
  have hsw : swapsWithSole [.Subscript o (.Slice (some lo) (some hi) none p2) p] e pos.line X.env = pure false := by
    unfold swapsWithSole
    exact sw_no hcm
  have hw : swappedStores [.Subscript o (.Slice (some lo) (some hi) none p2) p] e X.env = pure none := rfl
  have hg : PG X (.Subscript o (.Slice (some lo) (some hi) none p2) p) (fun v σ H Q => T X.K W mo σ H fun x H1 => T X.K W ml σ H1 fun y H2 => T X.K W mh σ H2 fun z H3 => ∃ i j, y = .int i ∧ z = .int j ∧ ∀ q, H3 q = none → rSlS x (.ref q) v (upd H3 q (slO q i j)) (Q σ)) := by
    refine ⟨fun pins s σ H v u Q I r h => ?_⟩
    show wpAny _ _ (do
      let ov ← holding [u] (eval o X.env)
      let iv ← holding [u, ov] (eval (.Slice (some lo) (some hi) none p2) X.env)
      standAt p
      holding [u, ov, iv] (setItem ov iv u)
      release [iv, u, ov] []) _ _ _
    refine wpAny_bind (wpAny_holding (thn (ho.run pins s σ H _ I h) fun ov s1 ⟨x, H1, I1, r1, q1⟩ => ?_))
    refine wpAny_bind (wpAny_holding (thn ((pe_slc (p2 := p2) hl hh).run pins s1 σ H1 (fun i H4 => rSlS x i v H4 (Q σ)) I1 ?_) fun iv s2 ⟨y, H2, I2, r2, q2⟩ => ?_))
    · exact q1
    · exact wpAny_bind (wpAny_standAt (wpAny_bind (wpAny_holding (thn (pset_sl pins s2 σ H2 x y v ov iv u _ I2 r1 r2 r q2) fun _ s3 ⟨H3, I3, q3⟩ => wpAny_release ⟨σ, H3, I3, q3⟩))))
  refine PS.weak (ps_asg he hg hsw hw) fun D σ H ⟨ρ, sl, h, A, g⟩ => TsS.step A g fun ρ1 H1 h1 y v l k A1 r g1 => TsS.step A1 g1 fun ρ2 H2 h2 x u l2 k2 A2 r2 g2 => TsS.step A2 g2 fun ρ3 H3 h3 z w l3 k3 A3 r3 g3 => TsS.step A3 g3 fun ρ4 H4 h4 z2 w2 l4 k4 A4 r4 g4 => ?_
  cases x <;> cases y <;> cases z <;> cases z2 <;> first | exact False.elim g4 | skip
  rename_i n m i j
  dsimp only at g4
  split at g4
  · exact g4.elim
  rename_i hnm
  split at g4
  · rename_i xs ys e1 e2
    split at g4
    · rename_i hc
      obtain ⟨c1, c2, c3, c4⟩ := hc
      obtain ⟨a, vs, rfl, h5, h6, h7⟩ := ((r2.mono l3 k3).mono l4 k4).lstAt A4.sim e1
      obtain ⟨b, ws, rfl, h8, h9, h10⟩ := (((r.mono l2 k2).mono l3 k3).mono l4 k4).lstAt A4.sim e2
      cases r3
      cases r4
      refine ⟨i, j, rfl, rfl, fun q hq => ?_⟩
      have hab : a ≠ b := fun z => hnm (by
        subst z
        have h1 := List.getElem?_eq_some_iff.mp h5
        have h2 := List.getElem?_eq_some_iff.mp h8
        exact (List.getElem_inj A4.sim.nd).mp (h1.2.trans h2.2.symm))
      have kq : Keep ρ4 ρ4 H4 (upd H4 q (slO q i j)) := Keep.new hq
      have A5 : At X.K ρ4 h4 (upd H4 q (slO q i j)) sl σ := ⟨A4.sim.grow (upd_same_of hq), A4.rs.mono (Tr.le_refl _) kq⟩
      have ha6 : upd H4 q (slO q i j) a = some (.lst vs) := upd_same_of hq _ _ h6
      have hb6 : upd H4 q (slO q i j) b = some (.lst ws) := upd_same_of hq _ _ h9
      have hm : a ∈ ρ4 := (List.mem_of_getElem? h5 : a ∈ ρ4.l)
      have lv := h7.length
      have lw := h10.length
      rw [sizeL_eq] at c4
      have ei : ((i.toNat : Nat) : Int) = i := by omega
      have ej : ((j.toNat : Nat) : Int) = j := by omega
      refine ⟨a, q, b, vs, ws, i.toNat, j.toNat, rfl, rfl, rfl, ha6, hb6, hab, by rw [ei, ej]; exact upd_same, by omega, by omega, by omega, ?_⟩
      have kw : Keep ρ4 ρ4 (upd H4 q (slO q i j)) (upd (upd H4 q (slO q i j)) a (.lst (vs.take i.toNat ++ ws ++ vs.drop j.toNat))) := Keep.write ha6 (fun _ _ z => nomatch z) hm
      have x7 := h7.mono (Tr.le_refl _) (kq.trans kw)
      have x10 := h10.mono (Tr.le_refl _) (kq.trans kw)
      obtain ⟨S4, K4⟩ := A5.sim.write h5 (o := .lst (xs.take i.toNat ++ ys ++ xs.drop j.toNat)) (u := .lst (vs.take i.toNat ++ ws ++ vs.drop j.toNat)) ⟨_, upd_same, ((x7.take _).append x10).append (x7.drop _)⟩
      exact g4 ρ4 σ _ (Tr.le_refl _) (kq.trans K4) S4 (A5.rs.mono (Tr.le_refl _) K4)
    · exact g4.elim
  · exact g4.elim
end
end R
end

section
set_option Elab.async false
set_option linter.all false
set_option maxRecDepth 100000
set_option maxHeartbeats 8000000
/-! Statements: compiled, and so. -/
namespace R
open PySem PySem.Spec PyProof.Rows L2
/-- how deep an expression goes at most -/
def FU : Nat := 100
def isLocal (sc : Scope) (x : Str) : Bool := match sc.names.lookup x with
  | some .local => true
  | _ => false
def allLocal (sc : Scope) : List Expr → Bool
  | [] => true
  | .Name x _ :: r => isLocal sc x && allLocal sc r
  | _ => false
section
variable (cp : CP) (N : List Str)
def cAsg (sc : Scope) (t e : Expr) : Option S := match t with
  | .Name x p => (cTg1 N sc (.Name x p)).bind fun i =>
      if noComp e then (cE cp N (FU + 1) false sc e).map (.set i)
      else (match e with
        | .ListComp elt gens scope vp => if isLocal sc x && p.line == vp.line && !(scope.names.any fun (n, k) => n == x && (k == .local || k == .cell)) then (cE cp N (FU + 1) false sc (.ListComp elt gens scope vp)).map (.set i)
          else if isLocal sc x then none else (cE cp N (FU + 1) false sc (.ListComp elt gens scope vp)).map (.set i)
        | _ => none)
  | .Tuple ts _ _ => (ts.mapM (cTg1 N sc)).bind fun is => (match e with
      | .Tuple vs k2 p2 => (swK sc ts vs).bind fun r => (match r with
        | none => (cE cp N (FU + 1) false sc (.Tuple vs k2 p2)).map (.unp is)
        | some names => if allLocal sc ts && decide (is.Nodup) && (is.length == 2 || is.length == 3) && decide (vs.length = is.length) && decide (names = ts.filterMap fun | .Name x _ => some x | _ => none) then (cEs cp N (FU + 1) false sc vs).map (.par is) else none)
      | e => if noComp e then (cE cp N (FU + 1) false sc e).map (.unp is) else none)
  | .Subscript o (.Slice (some lo) (some hi) none _) _ => if noComp e then (cE cp N (FU + 1) false sc e).bind fun e' => (cE cp N (FU + 1) false sc o).bind fun o' => (cE cp N (FU + 1) false sc lo).bind fun l' => (cE cp N (FU + 1) false sc hi).map fun h' => .setSl o' l' h' e' else none
  | .Subscript o i _ => if noComp e && noSliceE i then (cE cp N (FU + 1) false sc e).bind fun e' => (cE cp N (FU + 1) false sc o).bind fun o' => (cE cp N (FU + 1) false sc i).map fun i' => .setIx o' i' e' else none
  | .Attribute o f _ => if noComp e then (cE cp N (FU + 1) false sc e).bind fun e' => (cE cp N (FU + 1) false sc o).map fun o' => .setF o' f e' else none
  | _ => none
mutual
def cS : Nat → Scope → Stmt → Option S
  | 0, _, _ => none
  | n + 1, sc, st => match st with
    | .Assign [t] e _ => cAsg cp N sc t e
    | .Expr e _ => if noComp e then (cE cp N (FU + 1) false sc e).map .exp else none
    | .Return e _ => (match e with
      | some e => (cE cp N (FU + 1) false sc e).map .ret
      | none => some .retN)
    | .If c a b _ => (cE cp N (FU + 1) false sc c).bind fun c' => (cSs n sc a).bind fun a' => (cSs n sc b).map fun b' => .ife c' a' b'
    | .While c b [] _ => (cE cp N (FU + 1) false sc c).bind fun c' => (cSs n sc b).map fun b' => .whl c' b'
    | .For tg it b [] _ => (cTg N sc tg).bind fun t => (cIt cp N (FU + 1) (isTupE tg) sc it).bind fun i => (cSs n sc b).map fun b' => .for t i b'
    | .Pass _ => some .pass
    | .Break _ => some .brk
    | .Continue _ => some .cont
    | _ => none
def cSs : Nat → Scope → List Stmt → Option (List S)
  | 0, _, _ => none
  | n + 1, sc, sts => match sts with
    | [] => some []
    | s :: r => (cSs n sc r).map fun r' => (cS n sc s).getD .bad :: r'
end
end
section
variable {P : Pg} {cp : CP} {F : FF} {fad : Str → Addr} {fdo : Str → FuncData} {pso : Str → List Str} {k : Nat} {n : Nat}
variable {X : Cx} {W : WX}
/-- the context of statements -/
structure Cb (P : Pg) (cp : CP) (fad : Str → Addr) (fdo : Str → FuncData) (pso : Str → List Str) (F : FF) (k : Nat) (X : Cx) (W : WX) : Prop where
  c : Cs P cp fad fdo pso F k X W
  t : Tok0 X X.env.scope
  kd : X.env.scope.kind = .function
  p : PassesOwn (model X.prog X.w) X.A X.env X.xe
  cmp : ∀ (X : Cx) (W : WX), Cs P cp fad fdo pso F k X W → CmpOk P F X
theorem PS.cast {st : Stmt} {m m' : Sl → PH → Out} (h : PS X st (TsS X.K W m)) (em : ∀ sl h, m' sl h = m sl h) : PS X st (TsS X.K W m') := by
  have : m' = m := funext fun sl => funext fun h => em sl h
  rw [this]; exact h
theorem isLocal_of {sc : Scope} {x : Str} (h : isLocal sc x = true) : sc.names.lookup x = some .local := by
  unfold isLocal at h
  split at h
  · assumption
  · cases h
theorem Cb.e (B : Cb P cp fad fdo pso F k X W) {fr : Bool} {n : Nat} {e : Expr} {e' : E} (h : cE cp X.N n fr X.env.scope e = some e') : Pr X W e (ev P F e') := (snd_all B.cmp n).1 X W fr _ e e' B.c rfl h
theorem Cb.es (B : Cb P cp fad fdo pso F k X W) {fr : Bool} {n : Nat} {e : List Expr} {e' : List E} (h : cEs cp X.N n fr X.env.scope e = some e') : PA X e (TsR X.K W (evs P F e')) := ((snd_all B.cmp n).2.1 X W fr _ e e' B.c rfl h).1
theorem tg1_name {sc : Scope} {e : Expr} {i : Nat} {N : List Str} (h : cTg1 N sc e = some i) : ∃ x p, e = .Name x p ∧ isLoc sc x = true ∧ ixOf N x = some i := by
  unfold cTg1 at h
  split at h
  · split at h
    · rename_i x p hx
      rw [Bool.and_eq_true] at hx
      exact ⟨x, p, rfl, hx.1, h⟩
    · cases h
  · cases h
theorem s_asg (B : Cb P cp fad fdo pso F k X W) {t e : Expr} {s' : S} {pos : Pos} (h : cAsg cp X.N X.env.scope t e = some s') : PS X (.Assign [t] e pos) (TsS X.K W (ex P F s')) := by
  unfold cAsg at h
  split at h
  · rename_i x p
    simp only [Option.bind_eq_some_iff] at h
    obtain ⟨i, h1, h2⟩ := h
    obtain ⟨x', p', ex', hl, hi⟩ := tg1_name h1
    cases ex'
    obtain ⟨q1, q2⟩ := B.t.ok x hl
    split at h2
    · rename_i hc
      rw [Option.map_eq_some_iff] at h2
      obtain ⟨e1, h3, rfl⟩ := h2
      exact PS.cast (s_set B.c.c.nd (ixOf_get hi) q1 q2 hc (B.e h3).pe) fun sl h => by simp only [ex] <;> rfl
    · split at h2
      · split at h2
        · rename_i hc
          simp only [Bool.and_eq_true] at hc
          obtain ⟨⟨c1, c2⟩, c3⟩ := hc
          rw [Option.map_eq_some_iff] at h2
          obtain ⟨e1, h3, rfl⟩ := h2
          obtain ⟨_, _, _, _, g5, g6, g7⟩ := snd_all B.cmp FU
          exact PS.cast (s_setLc g6 g5 g7 B.c rfl (ixOf_get hi) (isLocal_of c1) c2 (by simpa using c3) h3) fun sl h => by simp only [ex] <;> rfl
        · split at h2
          · cases h2
          · rename_i hnl
            rw [Option.map_eq_some_iff] at h2
            obtain ⟨e1, h3, rfl⟩ := h2
            exact PS.cast (s_setC B.c.c.nd (ixOf_get hi) q1 q2 (fun z => hnl (by unfold isLocal; rw [z])) (B.e h3).pe) fun sl h => by simp only [ex] <;> rfl
      · cases h2
  · rename_i ts kk tp
    simp only [Option.bind_eq_some_iff] at h
    obtain ⟨is, h1, h2⟩ := h
    split at h2
    · rename_i vs k2 p2
      simp only [Option.bind_eq_some_iff] at h2
      obtain ⟨r, h3, h4⟩ := h2
      have hw : swappedStores [.Tuple ts kk tp] (.Tuple vs k2 p2) X.env = pure r := swK_ok B.kd h3
      cases r with
      | none =>
        simp only [Option.map_eq_some_iff] at h4
        obtain ⟨e1, h5, rfl⟩ := h4
        exact PS.cast (s_unp B.c.c.calm B.c.c.nd B.t h1 hw rfl (B.e h5).pe) fun sl h => by simp only [ex] <;> rfl
      | some names =>
        simp only at h4
        split at h4
        · rename_i hc
          simp only [Bool.and_eq_true, decide_eq_true_eq, Bool.or_eq_true, beq_iff_eq] at hc
          obtain ⟨⟨⟨⟨c1, c2⟩, c3⟩, c4⟩, c5⟩ := hc
          rw [Option.map_eq_some_iff] at h4
          obtain ⟨es1, h5, rfl⟩ := h4
          have pa := B.es h5
          subst c5
          rcases c3 with c3 | c3
          · match is, c3, h1, c4, c2 with
            | [i, j], _, h1, c4, c2 =>
              match ts, h1, c1, hw with
              | [], h1, _, _ => simp at h1
              | [t1], h1, _, _ =>
                have := (pgs_all B.c.c.nd B.t h1).2.2
                cases this
              | [t1, t2], h1, c1, hw =>
                match vs, c4, pa, hw with
                | [a, b], _, pa, hw =>
                  rw [List.mapM_cons, List.mapM_cons, List.mapM_nil] at h1
                  simp only [Option.pure_def, Option.bind_eq_bind, Option.bind_eq_some_iff, Option.some.injEq] at h1
                  obtain ⟨i', g1, is', ⟨j', g2, is2, g3, g4⟩, g5⟩ := h1
                  subst g3 g4
                  simp only [List.cons.injEq, and_true] at g5
                  obtain ⟨rfl, rfl⟩ := g5
                  obtain ⟨x, px, rfl, _, hx⟩ := tg1_name g1
                  obtain ⟨y, py, rfl, _, hy⟩ := tg1_name g2
                  simp only [allLocal, Bool.and_true, Bool.and_eq_true] at c1
                  have hij : i' ≠ j' := by
                    have := (List.nodup_cons.mp c2).1
                    simpa using this
                  exact PS.cast (s_par2 B.c.c.calm B.c.c.nd (ixOf_get hx) (ixOf_get hy) hij (isLocal_of c1.1) (isLocal_of c1.2) pa hw) fun sl h => by simp only [ex] <;> rfl
              | _ :: _ :: _ :: _, h1, _, _ =>
                have := (pgs_all B.c.c.nd B.t h1).2.2
                simp at this
          · match is, c3, h1, c4, c2 with
            | [i, j, l], _, h1, c4, c2 =>
              match ts, h1, c1, hw with
              | [], h1, _, _ => simp at h1
              | [t1], h1, _, _ =>
                have := (pgs_all B.c.c.nd B.t h1).2.2
                simp at this
              | [t1, t2], h1, _, _ =>
                have := (pgs_all B.c.c.nd B.t h1).2.2
                simp at this
              | [t1, t2, t3], h1, c1, hw =>
                match vs, c4, pa, hw with
                | [a, b, c], _, pa, hw =>
                  rw [List.mapM_cons, List.mapM_cons, List.mapM_cons, List.mapM_nil] at h1
                  simp only [Option.pure_def, Option.bind_eq_bind, Option.bind_eq_some_iff, Option.some.injEq] at h1
                  obtain ⟨i', g1, is', ⟨j', g2, is2, ⟨l', g3, is3, g4, g5⟩, g6⟩, g7⟩ := h1
                  subst g4 g5 g6
                  simp only [List.cons.injEq, and_true] at g7
                  obtain ⟨rfl, rfl, rfl⟩ := g7
                  obtain ⟨x, px, rfl, _, hx⟩ := tg1_name g1
                  obtain ⟨y, py, rfl, _, hy⟩ := tg1_name g2
                  obtain ⟨z, pz, rfl, _, hz⟩ := tg1_name g3
                  simp only [allLocal, Bool.and_true, Bool.and_eq_true] at c1
                  have n1 := List.nodup_cons.mp c2
                  have n2 := List.nodup_cons.mp n1.2
                  have hij : i' ≠ j' := fun z => n1.1 (by rw [z]; exact List.mem_cons_self)
                  have hil : i' ≠ l' := fun z => n1.1 (by rw [z]; exact List.mem_cons_of_mem _ List.mem_cons_self)
                  have hjl : j' ≠ l' := fun z => n2.1 (by rw [z]; exact List.mem_cons_self)
                  exact PS.cast (s_par3 B.c.c.calm B.c.c.nd (ixOf_get hx) (ixOf_get hy) (ixOf_get hz) hij hil hjl (isLocal_of c1.1) (isLocal_of c1.2.1) (isLocal_of c1.2.2) pa hw) fun sl h => by simp only [ex] <;> rfl
              | _ :: _ :: _ :: _ :: _, h1, _, _ =>
                have := (pgs_all B.c.c.nd B.t h1).2.2
                simp at this
        · cases h4
    · rename_i hne
      split at h2
      · rename_i hc
        rw [Option.map_eq_some_iff] at h2
        obtain ⟨e1, h3, rfl⟩ := h2
        have hw : swappedStores [.Tuple ts kk tp] e X.env = pure none := by
          cases e <;> first | rfl | exact absurd rfl (hne _ _ _)
        exact PS.cast (s_unp B.c.c.calm B.c.c.nd B.t h1 hw hc (B.e h3).pe) fun sl h => by simp only [ex] <;> rfl
      · cases h2
  · rename_i o lo hi p2 p
    split at h
    · rename_i hc
      simp only [Option.bind_eq_some_iff, Option.map_eq_some_iff] at h
      obtain ⟨e1, h1, o1, h2, l1, h3, i1, h4, rfl⟩ := h
      exact PS.cast (s_setSl hc (B.e h2).pe (B.e h3).pe (B.e h4).pe (B.e h1).pe) fun sl h => by simp only [ex] <;> rfl
    · cases h
  · rename_i o i p _
    split at h
    · rename_i hc
      rw [Bool.and_eq_true] at hc
      simp only [Option.bind_eq_some_iff, Option.map_eq_some_iff] at h
      obtain ⟨e1, h1, o1, h2, i1, h3, rfl⟩ := h
      exact PS.cast (s_setIx hc.2 hc.1 (B.e h2).pe (B.e h3).pe (B.e h1).pe) fun sl h => by simp only [ex] <;> rfl
    · cases h
  · rename_i o f p
    split at h
    · rename_i hc
      simp only [Option.bind_eq_some_iff, Option.map_eq_some_iff] at h
      obtain ⟨e1, h1, o1, h2, rfl⟩ := h
      exact PS.cast (s_setF B.c hc (B.e h2).pe (B.e h1).pe) fun sl h => by simp only [ex] <;> rfl
    · cases h
  · cases h
/-- all statements -/
theorem s_all (B : Cb P cp fad fdo pso F k X W) : ∀ n, (∀ st s', cS cp X.N n X.env.scope st = some s' → PS X st (TsS X.K W (ex P F s'))) ∧ (∀ sts ss', cSs cp X.N n X.env.scope sts = some ss' → PSs X sts (TsS X.K W (exs P F ss')))
  | 0 => ⟨fun _ _ h => by simp only [cS, reduceCtorEq] at h, fun _ _ h => by simp only [cSs, reduceCtorEq] at h⟩
  | n + 1 => by
    obtain ⟨ihS, ihSs⟩ := s_all B n
    have castSs : ∀ {sts : List Stmt} {m m' : Sl → PH → Out}, PSs X sts (TsS X.K W m) → (∀ sl h, m' sl h = m sl h) → PSs X sts (TsS X.K W m') := fun {sts m m'} h em => by
      have : m' = m := funext fun sl => funext fun h => em sl h
      rw [this]; exact h
    refine ⟨fun st s' h => ?_, fun sts ss' h => ?_⟩
    · cases st with
      | Assign ts e p =>
        match ts, h with
        | [t], h => simp only [cS] at h; exact s_asg B h
        | [], h => simp only [cS, reduceCtorEq] at h
        | _ :: _ :: _, h => simp only [cS, reduceCtorEq] at h
      | Expr e p =>
        simp only [cS] at h
        split at h
        · rename_i hc
          rw [Option.map_eq_some_iff] at h
          obtain ⟨e1, h1, rfl⟩ := h
          exact PS.cast (s_exp hc (B.e h1).pe) fun sl h => by simp only [ex] <;> rfl
        · cases h
      | Return e p =>
        cases e with
        | none =>
          simp only [cS, Option.some.injEq] at h
          subst h
          exact PS.cast s_retN fun sl h => by simp only [ex] <;> rfl
        | some e =>
          simp only [cS, Option.map_eq_some_iff] at h
          obtain ⟨e1, h1, rfl⟩ := h
          exact PS.cast (s_ret (B.e h1).pe) fun sl h => by simp only [ex] <;> rfl
      | If c a b p =>
        simp only [cS, Option.bind_eq_some_iff, Option.map_eq_some_iff] at h
        obtain ⟨c1, h1, a1, h2, b1, h3, rfl⟩ := h
        exact PS.cast (s_if (B.e h1).pt (ihSs a a1 h2) (ihSs b b1 h3)) fun sl h => by simp only [ex, tst] <;> rfl
      | While c b o p =>
        match o, h with
        | [], h =>
          simp only [cS, Option.bind_eq_some_iff, Option.map_eq_some_iff] at h
          obtain ⟨c1, h1, b1, h2, rfl⟩ := h
          exact PS.cast (s_while B.p (B.e h1).pt (ihSs b b1 h2)) fun sl h => by simp only [ex] <;> rfl
        | _ :: _, h => simp only [cS, reduceCtorEq] at h
      | For tg it b o p =>
        match o, h with
        | [], h =>
          simp only [cS, Option.bind_eq_some_iff, Option.map_eq_some_iff] at h
          obtain ⟨t1, h1, i1, h2, b1, h3, rfl⟩ := h
          obtain ⟨q1, q2⟩ := (snd_all B.cmp (FU + 1)).2.2.2.2.2.1 X W tg _ it i1 B.c rfl h2
          exact PS.cast (s_for B.p B.c.c.calm q1 (pg_ok B.c.c.calm B.c.c.nd B.t h1) (ihSs b b1 h3) fun x => q2 X.env x) fun sl h => by simp only [ex] <;> rfl
        | _ :: _, h => simp only [cS, reduceCtorEq] at h
      | Pass p => simp only [cS, Option.some.injEq] at h; subst h; exact PS.cast s_pass fun sl h => by simp only [ex] <;> rfl
      | Break p => simp only [cS, Option.some.injEq] at h; subst h; exact PS.cast s_brk fun sl h => by simp only [ex] <;> rfl
      | Continue p => simp only [cS, Option.some.injEq] at h; subst h; exact PS.cast s_cont fun sl h => by simp only [ex] <;> rfl
      | _ => simp only [cS, reduceCtorEq] at h
    · match sts, h with
      | [], h =>
        simp only [cSs, Option.some.injEq] at h
        subst h
        exact castSs ss_nil fun sl h => by simp only [exs] <;> rfl
      | s :: r, h =>
        simp only [cSs, Option.map_eq_some_iff] at h
        obtain ⟨r1, h2, rfl⟩ := h
        have one : PS X s (TsS X.K W (ex P F ((cS cp X.N n X.env.scope s).getD .bad))) := by
          cases h1 : cS cp X.N n X.env.scope s with
          | some s1 => exact ihS s s1 h1
          | none =>
            refine ⟨fun pins st σ H D I ⟨ρ, sl, h, A, g⟩ => ?_⟩
            rw [Option.getD_none] at g
            simp only [ex] at g
            exact g.elim
        exact castSs (ss_cons one (ihSs r r1 h2)) fun sl h => by simp only [exs] <;> rfl
end
end R
end

section
set_option Elab.async false
set_option linter.all false
set_option maxRecDepth 100000
set_option maxHeartbeats 8000000
/-! The defs keep their promises. -/
namespace R
open PySem PySem.Spec PyProof.Rows L2
/-- a def as its text stands: its names (the parameters first), its parameters -/
structure DTx where
  name : Str
  x : Str
  qual : Str
  params : Arguments
  body : List Stmt
  scope : Scope
  ns : List Str
  ps : List Str
/-- how deep statements go -/
def FS : Nat := 1000
section
variable {P : Pg} {cp : CP} {fad : Str → Addr} {fdo : Str → FuncData} {pso : Str → List Str} {prog : Program} {w : World} {K : PySem.W.Frag} {mg : Str → Option Value} {base : Heap}
/-- a def is as the own program says -/
structure DOk (P : Pg) (cp : CP) (fad : Str → Addr) (fdo : Str → FuncData) (pso : Str → List Str) (K : PySem.W.Frag) (d : FnDf) (t : DTx) : Prop where
  fn : FunD K t.x t.qual t.params t.body t.scope [] [] (fad d.name) (fdo d.name)
  sc : FnScope t.ns t.ps t.scope
  cs : cSs cp t.ns FS t.scope t.body = some d.body
  np : d.np = t.ps.length
  ns : d.ns = t.ns.length
  ps : pso d.name = t.ps
theorem rs_start {ρ : Tr} {H : Hp} {as : List PV} {vs : List V} {ns : Nat} {N : List Str} (r : RPs K ρ H as vs) (hn : ns = N.length) (hl : as.length ≤ ns) : RS K ρ H (as.map some ++ List.replicate (ns - as.length) none) (L2.start N vs) := by
  have e := r.length
  refine ⟨by simp only [L2.start, hn, List.length_append, List.length_map, List.length_replicate, e], fun i x h => ?_⟩
  have hi : i < as.length := by
    by_cases hi : i < as.length
    · exact hi
    · rw [List.getElem?_append_right (by simpa using hi), List.getElem?_replicate] at h
      split at h <;> cases h
  rw [List.getElem?_append_left (by simpa using hi), List.getElem?_map] at h
  cases ea : as[i]? with
  | none => rw [ea] at h; cases h
  | some y =>
    rw [ea] at h
    cases h
    obtain ⟨v, h1, h2⟩ := r.get ea
    refine ⟨v, ?_, h2⟩
    unfold L2.start
    rw [List.getElem?_append_left (by rw [List.length_map, ← e]; exact hi), List.getElem?_map, h1]
    rfl
theorem tok_loc {sc : Scope} {x : Str} (h : isLoc sc x = true) : Loc sc x := by
  unfold isLoc at h
  split at h
  · exact Or.inl (by assumption)
  · exact Or.inr (by assumption)
  · cases h
/-- one level more -/
theorem fn_step {n : Nat} (fs : Fs P cp.g fad fdo pso K mg) (kw : KwOk cp fdo pso K) (ih : Fd fad fdo pso (Fn P n) (2 * n) prog w K mg base) {d : FnDf} {t : DTx} (hd : P.fn d.name = some d) (ok : DOk P cp fad fdo pso K d t) :
    GOk prog w K mg base (CX prog w) (2 * n + 1 + 1) (fad d.name) (fdo d.name) (pso d.name) (spF K (Fn P (n + 1)) d.name) := by
  have fnb : ∀ d as h, P.fn d = none → Fn P n d as h = .bad := fun d as h e => by
    cases n with
    | zero => rfl
    | succ n => simp only [Fn, e]
  have eq : ∀ as h, Fn P (n + 1) d.name as h = if as.length = d.np then run P (Fn P n) d as h else .bad := fun as h => by simp only [Fn, hd]
  rw [ok.ps]
  refine g_ofD ok.fn ok.sc (fun vs H Q E hsp => ?_) fun cdv A outer s H vs Q E hr hgd hsp => ?_
  · obtain ⟨ρ, as, h, S, r, g⟩ := hsp
    rw [eq] at g
    split at g
    · rename_i hl
      rw [← r.length, hl, ok.np]
    · exact g.elim
  · obtain ⟨ρ, as, h, S, r, g⟩ := hsp
    rw [eq] at g
    split at g
    · rename_i hl
      have tk : Takes (cxOf (CX prog w) prog w K mg base t.ns t.qual t.scope (fad d.name) cdv A outer s H E) (fun cls d _ H => E cls d H) := takes_of (X := cxOf (CX prog w) prog w K mg base t.ns t.qual t.scope (fad d.name) cdv A outer s H E) rfl rfl rfl rfl
      have C : Cs P cp fad fdo pso (Fn P n) (2 * n) (cxOf (CX prog w) prog w K mg base t.ns t.qual t.scope (fad d.name) cdv A outer s H E) (fun cls d _ H => E cls d H) :=
        ⟨⟨fs, ih, fnb, hr, hgd, rfl, ok.sc.nd, tk⟩, kw⟩
      have B : Cb P cp fad fdo pso (Fn P n) (2 * n) (cxOf (CX prog w) prog w K mg base t.ns t.qual t.scope (fad d.name) cdv A outer s H E) (fun cls d _ H => E cls d H) :=
        ⟨C, ⟨fun x h => ⟨tok_loc h, Or.inl rfl⟩⟩, ok.sc.kind, passes_of (X := cxOf (CX prog w) prog w K mg base t.ns t.qual t.scope (fad d.name) cdv A outer s H E) rfl, fun X W C => cmp_all C⟩
      refine ⟨_, (s_all B FS).2 t.body d.body ok.cs, ?_⟩
      have hle : as.length ≤ d.ns := by
        rw [hl, ok.np, ok.ns]
        have := congrArg List.length ok.sc.pre
        rw [List.length_take] at this
        omega
      refine ⟨ρ, as.map some ++ List.replicate (d.ns - as.length) none, h, ⟨S, rs_start r ok.ns hle⟩, ?_⟩
      unfold run at g
      revert g
      cases exs P (Fn P n) d.body (as.map some ++ List.replicate (d.ns - as.length) none) h with
      | nx s2 h2 => exact fun g ρ' σ' H' l k S' r' => g ρ' H' .non l k S' .non
      | rt v h2 => exact fun g => g
      | er C as' s2 h2 => exact fun g ρ' σ' H' e gs l k S' r' e1 e2 => g ρ' H' e gs l k S' e1 e2
      | bk _ _ => exact fun g => g.elim
      | ct _ _ => exact fun g => g.elim
      | bad => exact fun g => g.elim
    · exact g.elim
/-- all the defs, at every level -/
theorem fd_all (fs : Fs P cp.g fad fdo pso K mg) (kw : KwOk cp fdo pso K) (hP : ∀ x d, P.fn x = some d → d.name = x ∧ ∃ t, DOk P cp fad fdo pso K d t) : ∀ n, Fd fad fdo pso (Fn P n) (2 * n) prog w K mg base
  | 0 => fun d => ⟨fun vs H Q E h => (sp_none (fun _ _ => rfl) h).elim, fun A outer s H args us vs Q E hr hg e0 hb r h => (sp_none (fun _ _ => rfl) h).elim⟩
  | n + 1 => fun x => by
    cases e : P.fn x with
    | none =>
      have hb : ∀ as h, Fn P (n + 1) x as h = .bad := fun as h => by simp only [Fn, e]
      exact ⟨fun vs H Q E h => (sp_none hb h).elim, fun A outer s H args us vs Q E hr hg e0 hb' r h => (sp_none hb h).elim⟩
    | some d =>
      obtain ⟨en, t, ok⟩ := hP x d e
      subst en
      exact fn_step fs kw (fd_all fs kw hP n) e ok
end
end R
end

section
set_option Elab.async false
set_option linter.all false
set_option maxRecDepth 100000
set_option maxHeartbeats 4000000
/-! What a run comes to, told by what is wanted behind it. -/
namespace R
open PySem L2
def sat {α : Type} (r : Rs α) (Q : α → PH → Prop) : Prop := match r with
  | .ok a h => Q a h
  | _ => False
@[simp] theorem sat_ok {α : Type} (a : α) (h : PH) (Q : α → PH → Prop) : sat (.ok a h) Q = Q a h := rfl
@[simp] theorem sat_bad {α : Type} (Q : α → PH → Prop) : sat (.bad : Rs α) Q = False := rfl
@[simp] theorem sat_er {α : Type} (C : Str) (as) (h : PH) (Q : α → PH → Prop) : sat (.er C as h : Rs α) Q = False := rfl
@[simp] theorem sat_bind {α β : Type} (r : Rs α) (k : α → PH → Rs β) (Q : β → PH → Prop) : sat (r.bind k) Q = sat r fun a h => sat (k a h) Q := by cases r <;> rfl
@[simp] theorem sat_noEr {α : Type} (r : Rs α) (Q : α → PH → Prop) : sat (Rs.noEr r) Q = sat r Q := by cases r <;> rfl
@[simp] theorem sat_of {α : Type} (o : Option α) (h : PH) (Q : α → PH → Prop) : sat (Rs.of o h) Q = (∃ a, o = some a ∧ Q a h) := by
  cases o with
  | none => simp [Rs.of]
  | some a => simp [Rs.of]
theorem sat_mono {α : Type} {r : Rs α} {Q Q' : α → PH → Prop} (s : sat r Q) (k : ∀ a h, Q a h → Q' a h) : sat r Q' := by
  cases r with
  | ok a h => exact k a h s
  | er _ _ _ => exact s
  | bad => exact s
theorem sat_ite {α : Type} {c : Prop} [Decidable c] {a b : Rs α} {Q : α → PH → Prop} (hc : c) (h : sat a Q) : sat (if c then a else b) Q := by rw [if_pos hc]; exact h
/-- wanted behind a statement -/
structure Po where
  nx : Sl → PH → Prop
  rt : PV → PH → Prop
  bk : Sl → PH → Prop := fun _ _ => False
  ct : Sl → PH → Prop := fun _ _ => False
def osat (r : Out) (D : Po) : Prop := match r with
  | .nx s h => D.nx s h
  | .rt v h => D.rt v h
  | .bk s h => D.bk s h
  | .ct s h => D.ct s h
  | _ => False
@[simp] theorem osat_nx (s : Sl) (h : PH) (D : Po) : osat (.nx s h) D = D.nx s h := rfl
@[simp] theorem osat_rt (v : PV) (h : PH) (D : Po) : osat (.rt v h) D = D.rt v h := rfl
@[simp] theorem osat_bk (s : Sl) (h : PH) (D : Po) : osat (.bk s h) D = D.bk s h := rfl
@[simp] theorem osat_ct (s : Sl) (h : PH) (D : Po) : osat (.ct s h) D = D.ct s h := rfl
@[simp] theorem osat_bad (D : Po) : osat .bad D = False := rfl
@[simp] theorem osat_er (C as sl h) (D : Po) : osat (.er C as sl h) D = False := rfl
@[simp] theorem osat_bind (r : Out) (k : Sl → PH → Out) (D : Po) : osat (r.bind k) D = osat r { D with nx := fun s h => osat (k s h) D } := by cases r <;> rfl
@[simp] theorem osat_out {α : Type} (r : Rs α) (sl : Sl) (k : α → PH → Out) (D : Po) : osat (r.out sl k) D = sat r fun a h => osat (k a h) D := by cases r <;> rfl
theorem osat_mono {r : Out} {D D' : Po} (s : osat r D) (h1 : ∀ s h, D.nx s h → D'.nx s h) (h2 : ∀ v h, D.rt v h → D'.rt v h) (h3 : ∀ s h, D.bk s h → D'.bk s h := by exact fun _ _ z => z) (h4 : ∀ s h, D.ct s h → D'.ct s h := by exact fun _ _ z => z) : osat r D' := by
  cases r with
  | nx s h => exact h1 _ _ s
  | rt v h => exact h2 _ _ s
  | bk s h => exact h3 _ _ s
  | ct s h => exact h4 _ _ s
  | er _ _ _ _ => exact s
  | bad => exact s
section
variable {P : Pg} {F : FF}
theorem sat_run (d : FnDf) (as : List PV) (h : PH) (Q : PV → PH → Prop) : sat (run P F d as h) Q = osat (exs P F d.body (as.map some ++ List.replicate (d.ns - as.length) none) h) { nx := fun _ h => Q .non h, rt := Q } := by
  unfold run
  cases exs P F d.body (as.map some ++ List.replicate (d.ns - as.length) none) h <;> rfl
/-- a def called -/
theorem sat_fn {n : Nat} {f : Str} {d : FnDf} {as : List PV} {h : PH} {Q : PV → PH → Prop} (e : P.fn f = some d) (hl : as.length = d.np) (s : osat (exs P (Fn P n) d.body (as.map some ++ List.replicate (d.ns - as.length) none) h) { nx := fun _ h => Q .non h, rt := Q }) : sat (Fn P (n + 1) f as h) Q := by
  simp only [Fn, e]
  rw [if_pos hl, sat_run]
  exact s

/-! ### heaps -/
/-- all objects stay -/
def Ex (h h' : PH) : Prop := ∀ (i : Nat) (o : PO), h[i]? = some o → h'[i]? = some o
theorem Ex.refl (h : PH) : Ex h h := fun _ _ e => e
theorem Ex.trans {a b c : PH} (x : Ex a b) (y : Ex b c) : Ex a c := fun i o e => y i o (x i o e)
theorem Ex.app (h g : PH) : Ex h (h ++ g) := fun i o e => by
  rw [List.getElem?_append_left (List.getElem?_eq_some_iff.mp e).1]; exact e
theorem Ex.len {h h' : PH} (x : Ex h h') : h.length ≤ h'.length := by
  cases hn : h.length with
  | zero => exact Nat.zero_le _
  | succ n =>
    have e : h[n]? = some (h[n]'(by omega)) := List.getElem?_eq_getElem _
    have := (List.getElem?_eq_some_iff.mp (x n _ e)).1
    omega
@[simp] theorem get_new (h : PH) (o : PO) : (h ++ [o])[h.length]? = some o := by simp

/-! ### loops -/
/-- what a source yields: items of a list -/
def Yields (src : Src) (l : List Itm) (h : PH) : Prop := src.len h = some l.length ∧ ∀ i, src.get h i = l[i]?
theorem yields_its (l : List PV) (h : PH) : Yields (.its l) (l.map .one) h := by
  refine ⟨by simp [Src.len], fun i => ?_⟩
  simp [Src.get, Src.at]
theorem yields_ref {n : Nat} {l : List PV} {h : PH} (e : h[n]? = some (.lst l)) : Yields (.ref n) (l.map .one) h := by
  refine ⟨by simp [Src.len, e], fun i => ?_⟩
  simp [Src.get, Src.at, e]
theorem for_sat {src : Src} {tg : Tg} {b : Sl → PH → Out} {l : List Itm} {D : Po} (Inv : List Itm → Sl → PH → Prop)
    (hy : ∀ pre s h, Inv pre s h → Yields src l h)
    (hs : ∀ pre x post s h, l = pre ++ x :: post → Inv pre s h → ∃ s1, asg tg x h s = some s1 ∧ osat (b s1 h) { nx := Inv (pre ++ [x]), ct := Inv (pre ++ [x]), bk := D.nx, rt := D.rt })
    (hd : ∀ s h, Inv l s h → D.nx s h) :
    ∀ (post pre : List Itm) (s : Sl) (h : PH), l = pre ++ post → Inv pre s h → osat (forGo src tg b post.length pre.length s h) D
  | [], pre, s, h, e, I => by
    rw [List.append_nil] at e
    subst e
    have := (hy _ s h I).1
    simp only [List.length_nil, forGo, this]
    simp only [Option.any_some, Nat.le_refl, decide_true, if_true, osat_nx]
    exact hd s h I
  | x :: post, pre, s, h, e, I => by
    have hg := (hy _ s h I).2 pre.length
    have hx : l[pre.length]? = some x := by rw [e]; simp
    obtain ⟨s1, h1, h2⟩ := hs pre x post s h e I
    simp only [List.length_cons, forGo, hg, hx, h1]
    have go : ∀ s' h', Inv (pre ++ [x]) s' h' → osat (forGo src tg b post.length (pre.length + 1) s' h') D := fun s' h' I' => by
      have := for_sat Inv hy hs hd post (pre ++ [x]) s' h' (by rw [e]; simp) I'
      simpa using this
    cases hb : b s1 h with
    | nx s' h' => rw [hb] at h2; exact go s' h' h2
    | ct s' h' => rw [hb] at h2; exact go s' h' h2
    | bk s' h' => rw [hb] at h2; exact h2
    | rt v h' => rw [hb] at h2; exact h2
    | er _ _ _ _ => rw [hb] at h2; exact h2
    | bad => rw [hb] at h2; exact h2
theorem for_all {src : Src} {tg : Tg} {b : Sl → PH → Out} {l : List Itm} {D : Po} {s : Sl} {h : PH} (Inv : List Itm → Sl → PH → Prop) (h0 : Inv [] s h)
    (hy : ∀ pre s h, Inv pre s h → Yields src l h)
    (hs : ∀ pre x post s h, l = pre ++ x :: post → Inv pre s h → ∃ s1, asg tg x h s = some s1 ∧ osat (b s1 h) { nx := Inv (pre ++ [x]), ct := Inv (pre ++ [x]), bk := D.nx, rt := D.rt })
    (hd : ∀ s h, Inv l s h → D.nx s h) : osat (match src.len h with
      | some n => forGo src tg b n 0 s h
      | none => .bad) D := by
  rw [(hy _ s h h0).1]
  exact for_sat Inv hy hs hd l [] s h rfl h0
theorem cl_sat {src : Src} {tg : Tg} {vs : List Nat} {c : Sl → PH → Rs Bool} {body : Sl → PH → List PV → Rs (List PV)} {sl : Sl} {l : List Itm} {Q : List PV → PH → Prop} (Inv : List Itm → List PV → PH → Prop)
    (hy : ∀ pre a h, Inv pre a h → Yields src l h)
    (hs : ∀ pre x post acc h, l = pre ++ x :: post → Inv pre acc h → ∃ s1, asg tg x h (wipeS sl vs) = some s1 ∧ sat (c s1 h) fun b h1 => match b with
      | false => Inv (pre ++ [x]) acc h1
      | true => sat (body s1 h1 acc) (Inv (pre ++ [x])))
    (hd : ∀ acc h, Inv l acc h → Q acc h) :
    ∀ (post pre : List Itm) (acc : List PV) (h : PH), l = pre ++ post → Inv pre acc h → sat (clGo tg vs c body src sl post.length pre.length acc h) Q
  | [], pre, acc, h, e, I => by
    rw [List.append_nil] at e
    subst e
    have := (hy _ _ h I).1
    simp only [List.length_nil, clGo, this]
    simp only [Option.any_some, Nat.le_refl, decide_true, if_true, sat_ok]
    exact hd _ h I
  | x :: post, pre, acc, h, e, I => by
    have hg := (hy _ _ h I).2 pre.length
    have hx : l[pre.length]? = some x := by rw [e]; simp
    obtain ⟨s1, h1, h2⟩ := hs pre x post acc h e I
    simp only [List.length_cons, clGo, hg, hx, h1, sat_bind]
    have go : ∀ a' h', Inv (pre ++ [x]) a' h' → sat (clGo tg vs c body src sl post.length (pre.length + 1) a' h') Q := fun a' h' I' => by
      have := cl_sat Inv hy hs hd post (pre ++ [x]) a' h' (by rw [e]; simp) I'
      simpa using this
    refine sat_mono h2 fun b h1' hb => ?_
    cases b with
    | false => exact go _ _ hb
    | true =>
      simp only [sat_bind]
      exact sat_mono hb fun a2 h2 I2 => go _ _ I2
theorem cl_all {src : Src} {tg : Tg} {vs : List Nat} {c : Sl → PH → Rs Bool} {body : Sl → PH → List PV → Rs (List PV)} {sl : Sl} {l : List Itm} {Q : List PV → PH → Prop} {acc : List PV} {h : PH} (Inv : List Itm → List PV → PH → Prop) (h0 : Inv [] acc h)
    (hy : ∀ pre a h, Inv pre a h → Yields src l h)
    (hs : ∀ pre x post acc h, l = pre ++ x :: post → Inv pre acc h → ∃ s1, asg tg x h (wipeS sl vs) = some s1 ∧ sat (c s1 h) fun b h1 => match b with
      | false => Inv (pre ++ [x]) acc h1
      | true => sat (body s1 h1 acc) (Inv (pre ++ [x])))
    (hd : ∀ acc h, Inv l acc h → Q acc h) : sat (match src.len h with
      | some n => clGo tg vs c body src sl n 0 acc h
      | none => .bad) Q := by
  rw [(hy _ acc h h0).1]
  exact cl_sat Inv hy hs hd l [] acc h rfl h0
/-- turns of a while -/
theorem whl_sat {c : Sl → PH → Rs Bool} {b : Sl → PH → Out} {D : Po} (Inv : Nat → Sl → PH → Prop)
    (hs : ∀ m s h, Inv m s h → sat (c s h) fun t h1 => match t with
      | false => D.nx s h1
      | true => ∃ m', m = m' + 1 ∧ osat (b s h1) { nx := Inv m', ct := Inv m', bk := D.nx, rt := D.rt }) :
    ∀ (n m : Nat) (s : Sl) (h : PH), m < n → Inv m s h → osat (whlGo c b n s h) D
  | 0, m, s, h, hm, I => absurd hm (Nat.not_lt_zero _)
  | n + 1, m, s, h, hm, I => by
    simp only [whlGo, osat_out]
    refine sat_mono (hs m s h I) fun t h1 ht => ?_
    cases t with
    | false => exact ht
    | true =>
      obtain ⟨m', e, h2⟩ := ht
      have go : ∀ s' h', Inv m' s' h' → osat (whlGo c b n s' h') D := fun s' h' I' => whl_sat Inv hs n m' s' h' (by omega) I'
      show osat (match b s h1 with | .nx s h => _ | .ct s h => _ | .bk s h => _ | r => r) D
      cases hb : b s h1 with
      | nx s' h' => rw [hb] at h2; exact go s' h' h2
      | ct s' h' => rw [hb] at h2; exact go s' h' h2
      | bk s' h' => rw [hb] at h2; exact h2
      | rt v h' => rw [hb] at h2; exact h2
      | er _ _ _ _ => rw [hb] at h2; exact h2
      | bad => rw [hb] at h2; exact h2
end
end R
end

section
set_option Elab.async false
set_option linter.all false
set_option maxRecDepth 100000
set_option maxHeartbeats 4000000
/-! Operations on plain values, as equations. -/
namespace R
open PySem L2
section
variable {P : Pg} {F : FF} {h : PH}
def isSt : E → Bool
  | .star _ => true
  | _ => false
@[simp] theorem rs_of_some {α : Type} (a : α) (h : PH) : Rs.of (some a) h = .ok a h := rfl
@[simp] theorem rs_of_none {α : Type} (h : PH) : Rs.of (none : Option α) h = .bad := rfl
@[simp] theorem out_er {α : Type} (C as) (h : PH) (sl : Sl) (k : α → PH → Out) : (Rs.er C as h : Rs α).out sl k = .er C as sl h := rfl
@[simp] theorem out_bad {α : Type} (sl : Sl) (k : α → PH → Out) : (Rs.bad : Rs α).out sl k = .bad := rfl
@[simp] theorem obind_bk (sl : Sl) (h : PH) (k : Sl → PH → Out) : (Out.bk sl h).bind k = .bk sl h := rfl
@[simp] theorem obind_ct (sl : Sl) (h : PH) (k : Sl → PH → Out) : (Out.ct sl h).bind k = .ct sl h := rfl
@[simp] theorem obind_bad (k : Sl → PH → Out) : (Out.bad).bind k = .bad := rfl
@[simp] theorem noEr_ok {α : Type} (a : α) (h : PH) : Rs.noEr (.ok a h) = .ok a h := rfl
@[simp] theorem q_evs_nil {sl : Sl} : evs P F [] sl h = .ok [] h := by simp only [evs]
@[simp] theorem q_evs_star {sl : Sl} (e : E) (es : List E) : evs P F (.star e :: es) sl h = (ev P F e sl h).bind fun x h => match seqOf h x with
      | some l => (evs P F es sl h).bind fun r h => .ok (l ++ r) h
      | none => .bad := by simp only [evs] <;> rfl
@[simp] theorem q_evs_var {sl : Sl} (i : Nat) (es : List E) : evs P F (.var i :: es) sl h = (ev P F (.var i) sl h).bind fun x h => (evs P F es sl h).bind fun r h => .ok (x :: r) h := by simp only [evs]
@[simp] theorem q_evs_con {sl : Sl} (v : PV) (es : List E) : evs P F (.con v :: es) sl h = (ev P F (.con v) sl h).bind fun x h => (evs P F es sl h).bind fun r h => .ok (x :: r) h := by simp only [evs]
@[simp] theorem q_evs_bin {sl : Sl} (o : Op2) (a b : E) (es : List E) : evs P F (.bin o a b :: es) sl h = (ev P F (.bin o a b) sl h).bind fun x h => (evs P F es sl h).bind fun r h => .ok (x :: r) h := by simp only [evs]
@[simp] theorem q_evs_neg {sl : Sl} (a : E) (es : List E) : evs P F (.neg a :: es) sl h = (ev P F (.neg a) sl h).bind fun x h => (evs P F es sl h).bind fun r h => .ok (x :: r) h := by simp only [evs]
@[simp] theorem q_evs_cmp {sl : Sl} (o : Cp) (a b : E) (es : List E) : evs P F (.cmp o a b :: es) sl h = (ev P F (.cmp o a b) sl h).bind fun x h => (evs P F es sl h).bind fun r h => .ok (x :: r) h := by simp only [evs]
@[simp] theorem q_evs_chn {sl : Sl} (o p : Cp) (a b c : E) (es : List E) : evs P F (.chn o p a b c :: es) sl h = (ev P F (.chn o p a b c) sl h).bind fun x h => (evs P F es sl h).bind fun r h => .ok (x :: r) h := by simp only [evs]
@[simp] theorem q_evs_and {sl : Sl} (a b : E) (es : List E) : evs P F (.and a b :: es) sl h = (ev P F (.and a b) sl h).bind fun x h => (evs P F es sl h).bind fun r h => .ok (x :: r) h := by simp only [evs]
@[simp] theorem q_evs_or {sl : Sl} (a b : E) (es : List E) : evs P F (.or a b :: es) sl h = (ev P F (.or a b) sl h).bind fun x h => (evs P F es sl h).bind fun r h => .ok (x :: r) h := by simp only [evs]
@[simp] theorem q_evs_not {sl : Sl} (a : E) (es : List E) : evs P F (.not a :: es) sl h = (ev P F (.not a) sl h).bind fun x h => (evs P F es sl h).bind fun r h => .ok (x :: r) h := by simp only [evs]
@[simp] theorem q_evs_ite {sl : Sl} (c a b : E) (es : List E) : evs P F (.ite c a b :: es) sl h = (ev P F (.ite c a b) sl h).bind fun x h => (evs P F es sl h).bind fun r h => .ok (x :: r) h := by simp only [evs]
@[simp] theorem q_evs_tup {sl : Sl} (l : List E) (es : List E) : evs P F (.tup l :: es) sl h = (ev P F (.tup l) sl h).bind fun x h => (evs P F es sl h).bind fun r h => .ok (x :: r) h := by simp only [evs]
@[simp] theorem q_evs_lst {sl : Sl} (f : Bool) (l : List E) (es : List E) : evs P F (.lst f l :: es) sl h = (ev P F (.lst f l) sl h).bind fun x h => (evs P F es sl h).bind fun r h => .ok (x :: r) h := by simp only [evs]
@[simp] theorem q_evs_dic {sl : Sl} (ks : List Str) (l : List E) (es : List E) : evs P F (.dic ks l :: es) sl h = (ev P F (.dic ks l) sl h).bind fun x h => (evs P F es sl h).bind fun r h => .ok (x :: r) h := by simp only [evs]
@[simp] theorem q_evs_ix {sl : Sl} (a b : E) (es : List E) : evs P F (.ix a b :: es) sl h = (ev P F (.ix a b) sl h).bind fun x h => (evs P F es sl h).bind fun r h => .ok (x :: r) h := by simp only [evs]
@[simp] theorem q_evs_slT {sl : Sl} (a b : E) (es : List E) : evs P F (.slT a b :: es) sl h = (ev P F (.slT a b) sl h).bind fun x h => (evs P F es sl h).bind fun r h => .ok (x :: r) h := by simp only [evs]
@[simp] theorem q_evs_slF {sl : Sl} (a b : E) (es : List E) : evs P F (.slF a b :: es) sl h = (ev P F (.slF a b) sl h).bind fun x h => (evs P F es sl h).bind fun r h => .ok (x :: r) h := by simp only [evs]
@[simp] theorem q_evs_slB {sl : Sl} (a b c : E) (es : List E) : evs P F (.slB a b c :: es) sl h = (ev P F (.slB a b c) sl h).bind fun x h => (evs P F es sl h).bind fun r h => .ok (x :: r) h := by simp only [evs]
@[simp] theorem q_evs_rev {sl : Sl} (a : E) (es : List E) : evs P F (.rev a :: es) sl h = (ev P F (.rev a) sl h).bind fun x h => (evs P F es sl h).bind fun r h => .ok (x :: r) h := by simp only [evs]
@[simp] theorem q_evs_fld {sl : Sl} (a : E) (f : Str) (es : List E) : evs P F (.fld a f :: es) sl h = (ev P F (.fld a f) sl h).bind fun x h => (evs P F es sl h).bind fun r h => .ok (x :: r) h := by simp only [evs]
@[simp] theorem q_evs_fn {sl : Sl} (f : Str) (l : List E) (es : List E) : evs P F (.fn f l :: es) sl h = (ev P F (.fn f l) sl h).bind fun x h => (evs P F es sl h).bind fun r h => .ok (x :: r) h := by simp only [evs]
@[simp] theorem q_evs_fnK {sl : Sl} (f : Str) (p : List Nat) (m : Nat) (l : List E) (es : List E) : evs P F (.fnK f p m l :: es) sl h = (ev P F (.fnK f p m l) sl h).bind fun x h => (evs P F es sl h).bind fun r h => .ok (x :: r) h := by simp only [evs]
@[simp] theorem q_evs_mk {sl : Sl} (f : Str) (l : List E) (es : List E) : evs P F (.mk f l :: es) sl h = (ev P F (.mk f l) sl h).bind fun x h => (evs P F es sl h).bind fun r h => .ok (x :: r) h := by simp only [evs]
@[simp] theorem q_evs_met {sl : Sl} (m : Str) (o : E) (l : List E) (es : List E) : evs P F (.met m o l :: es) sl h = (ev P F (.met m o l) sl h).bind fun x h => (evs P F es sl h).bind fun r h => .ok (x :: r) h := by simp only [evs]
@[simp] theorem q_evs_app {sl : Sl} (a : E) (l : List E) (es : List E) : evs P F (.app a l :: es) sl h = (ev P F (.app a l) sl h).bind fun x h => (evs P F es sl h).bind fun r h => .ok (x :: r) h := by simp only [evs]
@[simp] theorem q_evs_blt {sl : Sl} (b : Bf) (l : List E) (es : List E) : evs P F (.blt b l :: es) sl h = (ev P F (.blt b l) sl h).bind fun x h => (evs P F es sl h).bind fun r h => .ok (x :: r) h := by simp only [evs]
@[simp] theorem q_evs_isi {sl : Sl} (e : E) (l : List Str) (es : List E) : evs P F (.isi e l :: es) sl h = (ev P F (.isi e l) sl h).bind fun x h => (evs P F es sl h).bind fun r h => .ok (x :: r) h := by simp only [evs]
@[simp] theorem q_evs_bm {sl : Sl} (m : Bm) (o : E) (l : List E) (es : List E) : evs P F (.bm m o l :: es) sl h = (ev P F (.bm m o l) sl h).bind fun x h => (evs P F es sl h).bind fun r h => .ok (x :: r) h := by simp only [evs]
@[simp] theorem q_evs_lcm {sl : Sl} (f : Bool) (t : Tg) (w : List Nat) (i c b : E) (es : List E) : evs P F (.lcm f t w i c b :: es) sl h = (ev P F (.lcm f t w i c b) sl h).bind fun x h => (evs P F es sl h).bind fun r h => .ok (x :: r) h := by simp only [evs]
@[simp] theorem q_evs_dc {sl : Sl} (t : Tg) (w : List Nat) (i c k v : E) (es : List E) : evs P F (.dc t w i c k v :: es) sl h = (ev P F (.dc t w i c k v) sl h).bind fun x h => (evs P F es sl h).bind fun r h => .ok (x :: r) h := by simp only [evs]
@[simp] theorem q_evs_lrg {sl : Sl} (a b : E) (es : List E) : evs P F (.lrg a b :: es) sl h = (ev P F (.lrg a b) sl h).bind fun x h => (evs P F es sl h).bind fun r h => .ok (x :: r) h := by simp only [evs]
@[simp] theorem q_evs_lns {sl : Sl} (e : E) (es : List E) : evs P F (.lns e :: es) sl h = (ev P F (.lns e) sl h).bind fun x h => (evs P F es sl h).bind fun r h => .ok (x :: r) h := by simp only [evs]
@[simp] theorem v_lrg {sl : Sl} (a b : E) : ev P F (.lrg a b) sl h = (ev P F a sl h).bind fun x h => (ev P F b sl h).bind fun y h => lrgM x y h := by simp only [ev]
@[simp] theorem v_lns {sl : Sl} (e : E) : ev P F (.lns e) sl h = (ev P F e sl h).bind fun x h => lnsM x h := by simp only [ev]
@[simp] theorem v_var {sl : Sl} (i : Nat) : ev P F (.var i) sl h = Rs.of (sl.getD i none) h := by simp only [ev]
@[simp] theorem v_con {sl : Sl} (v : PV) : ev P F (.con v) sl h = .ok v h := by simp only [ev]
@[simp] theorem v_bad {sl : Sl}  : ev P F .bad sl h = .bad := by simp only [ev]
@[simp] theorem v_bin {sl : Sl} (o : Op2) (a b : E) : ev P F (.bin o a b) sl h = (ev P F a sl h).bind fun x h => (ev P F b sl h).bind fun y h => doBin o x y h := by simp only [ev]
@[simp] theorem v_cmp {sl : Sl} (o : Cp) (a b : E) : ev P F (.cmp o a b) sl h = (ev P F a sl h).bind fun x h => (ev P F b sl h).bind fun y h => cmpE P F o x y h := by simp only [ev]
@[simp] theorem v_tup {sl : Sl} (es : List E) : ev P F (.tup es) sl h = (evs P F es sl h).bind fun l h => if l.length ≤ sizeL then .ok (.tup l) h else .bad := by simp only [ev]
@[simp] theorem v_lst {sl : Sl} (fr : Bool) (es : List E) : ev P F (.lst fr es) sl h = (evs P F es sl h).bind fun l h => if l.length ≤ sizeL then newF fr l h else .bad := by simp only [ev]
@[simp] theorem v_dic {sl : Sl} (ks : List Str) (es : List E) : ev P F (.dic ks es) sl h = (evs P F es sl h).bind fun l h => if ks.length = l.length then newO (.dic ((ks.map Sum.inr).zip l)) h else .bad := by simp only [ev]
@[simp] theorem v_ix {sl : Sl} (a b : E) : ev P F (.ix a b) sl h = (ev P F a sl h).bind fun x h => (ev P F b sl h).bind fun y h => doIx x y h := by simp only [ev]
@[simp] theorem v_fld {sl : Sl} (a : E) (f : Str) : ev P F (.fld a f) sl h = (ev P F a sl h).bind fun x h => Rs.of (lookF P h x f) h := by simp only [ev]
@[simp] theorem v_fn {sl : Sl} (f : Str) (es : List E) : ev P F (.fn f es) sl h = (evs P F es sl h).bind fun l h => F f l h := by simp only [ev]
@[simp] theorem v_fnK {sl : Sl} (f : Str) (perm : List Nat) (m : Nat) (es : List E) : ev P F (.fnK f perm m es) sl h = (evs P F es sl h).bind fun l h => if l.length = m then F f (perm.map fun i => l.getD i .non) h else .bad := by simp only [ev]
@[simp] theorem v_blt {sl : Sl} (b : Bf) (es : List E) : ev P F (.blt b es) sl h = (evs P F es sl h).bind fun l h => doBlt b l h := by simp only [ev]
@[simp] theorem v_and {sl : Sl} (a b : E) : ev P F (.and a b) sl h = (ev P F a sl h).bind fun x h => match tru h x with
    | some true => ev P F b sl h
    | some false => .ok x h
    | none => .bad := by simp only [ev] <;> rfl
@[simp] theorem v_or {sl : Sl} (a b : E) : ev P F (.or a b) sl h = (ev P F a sl h).bind fun x h => match tru h x with
    | some true => .ok x h
    | some false => ev P F b sl h
    | none => .bad := by simp only [ev] <;> rfl
@[simp] theorem v_not {sl : Sl} (a : E) : ev P F (.not a) sl h = (ev P F a sl h).bind fun x h => match tru h x with
    | some k => .ok (.bl (!k)) h
    | none => .bad := by simp only [ev] <;> rfl
@[simp] theorem v_ite {sl : Sl} (c a b : E) : ev P F (.ite c a b) sl h = (ev P F c sl h).bind fun x h => match tru h x with
    | some true => ev P F a sl h
    | some false => ev P F b sl h
    | none => .bad := by simp only [ev] <;> rfl
@[simp] theorem v_chn {sl : Sl} (o p : Cp) (a b c : E) : ev P F (.chn o p a b c) sl h = (ev P F a sl h).bind fun x h => (ev P F b sl h).bind fun y h => (doCmp o x y h).bind fun r h => match r with
    | .bl true => (ev P F c sl h).bind fun z h => doCmp p y z h
    | .bl false => .ok (.bl false) h
    | _ => .bad := by simp only [ev] <;> rfl
@[simp] theorem v_neg {sl : Sl} (a : E) : ev P F (.neg a) sl h = (ev P F a sl h).bind fun x h => match x with
    | .int i => .ok (.int (-i)) h
    | _ => .bad := by simp only [ev] <;> rfl
@[simp] theorem v_slT {sl : Sl} (a b : E) : ev P F (.slT a b) sl h = (ev P F a sl h).bind fun x h => (ev P F b sl h).bind fun y h => match intOf y with
    | some j => doSl x none (some j) h
    | none => .bad := by simp only [ev] <;> rfl
@[simp] theorem v_slF {sl : Sl} (a b : E) : ev P F (.slF a b) sl h = (ev P F a sl h).bind fun x h => (ev P F b sl h).bind fun y h => match intOf y with
    | some j => doSl x (some j) none h
    | none => .bad := by simp only [ev] <;> rfl
@[simp] theorem v_slB {sl : Sl} (a b c : E) : ev P F (.slB a b c) sl h = (ev P F a sl h).bind fun x h => (ev P F b sl h).bind fun y h => match intOf y with
    | some i => (ev P F c sl h).bind fun z h => match intOf z with
      | some j => doSl x (some i) (some j) h
      | none => .bad
    | none => .bad := by simp only [ev] <;> rfl
@[simp] theorem v_rev {sl : Sl} (a : E) : ev P F (.rev a) sl h = (ev P F a sl h).bind fun x h => match x with
    | .ref n => (match h[n]? with
      | some (.lst l) => newO (.lst l.reverse) h
      | _ => .bad)
    | _ => .bad := by simp only [ev] <;> rfl
@[simp] theorem v_mk {sl : Sl} (C : Str) (es : List E) : ev P F (.mk C es) sl h = (evs P F es sl h).bind fun l h => match initName P C with
    | some g => (F g (.ref h.length :: l) (h ++ [.ins C []])).bind fun v h2 => match v with
      | .non => .ok (.ref h.length) h2
      | _ => .bad
    | none => .bad := by simp only [ev] <;> rfl
@[simp] theorem v_met {sl : Sl} (m : Str) (o : E) (es : List E) : ev P F (.met m o es) sl h = (ev P F o sl h).bind fun x h => match methOf P h x m with
    | some g => (evs P F es sl h).bind fun l h => F g (x :: l) h
    | none => .bad := by simp only [ev] <;> rfl
@[simp] theorem v_app {sl : Sl} (f : E) (es : List E) : ev P F (.app f es) sl h = (ev P F f sl h).bind fun x h => match x with
    | .glo g => if P.glb.contains g then (evs P F es sl h).bind fun l h => F g l h else .bad
    | _ => .bad := by simp only [ev] <;> rfl
@[simp] theorem v_isi {sl : Sl} (e : E) (cs : List Str) : ev P F (.isi e cs) sl h = (ev P F e sl h).bind fun x h => match isiAny P h x cs with
    | some k => .ok (.bl k) h
    | none => .bad := by simp only [ev] <;> rfl
@[simp] theorem v_bm {sl : Sl} (m : Bm) (o : E) (es : List E) : ev P F (.bm m o es) sl h = (ev P F o sl h).bind fun x h => match bmK m h x with
    | some k => (evs P F es sl h).bind fun l h => doBm k m x l h
    | none => .bad := by simp only [ev] <;> rfl
theorem fn_eq {n : Nat} {f : Str} {d : FnDf} {as : List PV} (e : P.fn f = some d) (hl : as.length = d.np) : Fn P (n + 1) f as h = run P (Fn P n) d as h := by
  simp only [Fn, e]
  rw [if_pos hl]
@[simp] theorem sz_lit {n : Nat} (h : n ≤ 100) : (n ≤ sizeL) = True := by simp only [sizeL, eq_iff_iff, iff_true]; omega
@[simp] theorem tru_bl (b : Bool) : tru h (.bl b) = some b := rfl
@[simp] theorem tru_non : tru h .non = some false := rfl
@[simp] theorem tru_int (i : Int) : tru h (.int i) = some (i != 0) := rfl
@[simp] theorem tru_tup (l : List PV) : tru h (.tup l) = some (!l.isEmpty) := rfl
theorem eqv_str (a b : Str) : PyData.eqv (.str a) (.str b) = (a == b) := by simp [PyData.eqv]
theorem eqv_int (a b : Int) : PyData.eqv (.int a) (.int b) = (a == b) := by simp [PyData.eqv]
@[simp] theorem shaped_int (a : Int) : SeqAt.shaped (.int a) = true := by simp [SeqAt.shaped, PyData.canLay0, PyData.depth]
@[simp] theorem shaped_none : SeqAt.shaped .none = true := by simp [SeqAt.shaped, PyData.canLay0, PyData.depth]
@[simp] theorem shaped_bool (b : Bool) : SeqAt.shaped (.bool b) = true := by simp [SeqAt.shaped, PyData.canLay0, PyData.depth]
@[simp] theorem q_eq_str (a b : Str) : cmpE P F .eq (.str a) (.str b) h = .ok (.bl (a == b)) h := by simp [cmpE, methOf, doCmp, scalP, eqP]
@[simp] theorem q_ne_str (a b : Str) : cmpE P F .ne (.str a) (.str b) h = .ok (.bl (!(a == b))) h := by simp [cmpE, methOf, doCmp, scalP, eqP]
@[simp] theorem q_eq_int (a b : Int) : cmpE P F .eq (.int a) (.int b) h = .ok (.bl (a == b)) h := by simp [cmpE, methOf, doCmp, scalP, eqP]
@[simp] theorem q_ne_int (a b : Int) : cmpE P F .ne (.int a) (.int b) h = .ok (.bl (!(a == b))) h := by simp [cmpE, methOf, doCmp, scalP, eqP]
@[simp] theorem q_lt_int (a b : Int) : cmpE P F .lt (.int a) (.int b) h = .ok (.bl (decide (a < b))) h := rfl
@[simp] theorem q_gt_int (a b : Int) : cmpE P F .gt (.int a) (.int b) h = .ok (.bl (decide (b < a))) h := rfl
@[simp] theorem q_le_int (a b : Int) : cmpE P F .le (.int a) (.int b) h = .ok (.bl (decide (a ≤ b))) h := rfl
@[simp] theorem q_ge_int (a b : Int) : cmpE P F .ge (.int a) (.int b) h = .ok (.bl (decide (b ≤ a))) h := rfl
@[simp] theorem q_lt_str (a b : Str) : cmpE P F .lt (.str a) (.str b) h = .ok (.bl (decide (a.cps.toList < b.cps.toList))) h := rfl
@[simp] theorem d_le_int (a b : Int) : doCmp .le (.int a) (.int b) h = .ok (.bl (decide (a ≤ b))) h := rfl
@[simp] theorem d_lt_int (a b : Int) : doCmp .lt (.int a) (.int b) h = .ok (.bl (decide (a < b))) h := rfl
@[simp] theorem q_is_str (a : Str) : cmpE P F .is (.str a) .non h = .ok (.bl false) h := rfl
@[simp] theorem q_is_non : cmpE P F .is .non .non h = .ok (.bl true) h := rfl
@[simp] theorem q_is_int (a : Int) : cmpE P F .is (.int a) .non h = .ok (.bl false) h := rfl
@[simp] theorem q_is_tup (l : List PV) : cmpE P F .is (.tup l) .non h = .ok (.bl false) h := rfl
@[simp] theorem q_isn_str (a : Str) : cmpE P F .isNot (.str a) .non h = .ok (.bl true) h := rfl
@[simp] theorem q_isn_non : cmpE P F .isNot .non .non h = .ok (.bl false) h := rfl
@[simp] theorem q_isn_tup (l : List PV) : cmpE P F .isNot (.tup l) .non h = .ok (.bl true) h := rfl
@[simp] theorem q_add_int (a b : Int) : doBin .add (.int a) (.int b) h = .ok (.int (a + b)) h := rfl
@[simp] theorem q_sub_int (a b : Int) : doBin .sub (.int a) (.int b) h = .ok (.int (a - b)) h := rfl
theorem q_mul_int {a b : Int} (hz : a.natAbs.log2 + b.natAbs.log2 < 1000000) : doBin .mul (.int a) (.int b) h = .ok (.int (a * b)) h := by simp [doBin, hz]
theorem log2_mono {a b : Nat} (h : a ≤ b) : a.log2 ≤ b.log2 := by
  by_cases h0 : a = 0
  · subst h0; simp
  · exact (Nat.le_log2 (by omega)).mpr (Nat.le_trans ((Nat.le_log2 h0).mp (Nat.le_refl _)) h)
/-- a bound of the numbers that are multiplied -/
def Big : Nat := 2 ^ 4000
theorem big_log {a : Nat} (h : a ≤ Big) : a.log2 ≤ 4000 := Nat.le_trans (log2_mono h) (Nat.le_of_eq Nat.log2_two_pow)
theorem q_mulB {a b : Int} (ha : a.natAbs ≤ Big) (hb : b.natAbs ≤ Big) : doBin .mul (.int a) (.int b) h = .ok (.int (a * b)) h := by
  have h1 := big_log ha
  have h2 := big_log hb
  simp only [doBin]
  rw [if_pos (by omega)]
theorem q_fdivB {a b : Int} (h0 : 0 < b) (hb : b.natAbs ≤ Big) : doBin .fdiv (.int a) (.int b) h = .ok (.int (a / b)) h := by
  have h2 := big_log hb
  simp only [doBin]
  rw [if_pos ⟨h0, by omega⟩]
theorem sm_big {n : Nat} (h : n ≤ 1000000) : n ≤ Big := Nat.le_trans h (by unfold Big; exact Nat.le_trans (by decide : 1000000 ≤ 2 ^ 20) (Nat.pow_le_pow_right (by decide) (by decide)))
theorem q_mod_int {a b : Int} (hz : 0 < b) : doBin .mod (.int a) (.int b) h = .ok (.int (a % b)) h := by simp [doBin, hz]
theorem q_fdiv_int {a b : Int} (hz : 0 < b) (hl : b.natAbs.log2 < 9000) : doBin .fdiv (.int a) (.int b) h = .ok (.int (a / b)) h := by simp [doBin, hz, hl]
@[simp] theorem q_len_tup (l : List PV) : doBlt .len [.tup l] h = .ok (.int l.length) h := rfl
@[simp] theorem q_int_int (i : Int) : doBlt .int [.int i] h = .ok (.int i) h := rfl
theorem q_len_ref {n : Nat} {l : List PV} (e : h[n]? = some (.lst l)) : doBlt .len [.ref n] h = .ok (.int l.length) h := by simp [doBlt, on1, bLen, e]
@[simp] theorem q_list_tup (l : List PV) : doBlt .list [.tup l] h = newO (.lst l) h := rfl
theorem q_list_ref {n : Nat} {l : List PV} (e : h[n]? = some (.lst l)) : doBlt .list [.ref n] h = newO (.lst l) h := by simp [doBlt, on1, bList, seqOf, e]
@[simp] theorem q_tuple_fro (l : List PV) : doBlt .tuple [.fro l] h = .ok (.tup l) h := rfl
@[simp] theorem q_tuple_tup (l : List PV) : doBlt .tuple [.tup l] h = .ok (.tup l) h := rfl
theorem q_tuple_ref {n : Nat} {l : List PV} (e : h[n]? = some (.lst l)) : doBlt .tuple [.ref n] h = .ok (.tup l) h := by simp [doBlt, on1, bTuple, seqOf, e]
theorem bls_map : ∀ bs : List Bool, blsOf (bs.map .bl) = some bs
  | [] => rfl
  | b :: r => by simp [blsOf, bls_map r]
theorem q_all_fro (bs : List Bool) : doBlt .all [.fro (bs.map .bl)] h = .ok (.bl (bs.all id)) h := by simp [doBlt, on1, bAll, bls_map]
@[simp] theorem seq_tup (l : List PV) : seqOf h (.tup l) = some l := rfl
@[simp] theorem seq_fro (l : List PV) : seqOf h (.fro l) = some l := rfl
theorem seq_ref {n : Nat} {l : List PV} (e : h[n]? = some (.lst l)) : seqOf h (.ref n) = some l := by simp [seqOf, e]
@[simp] theorem flat_str (s : Str) : isFlat (.str s) = true := rfl
@[simp] theorem flat_non : isFlat .non = true := rfl
@[simp] theorem flat_int (i : Int) : isFlat (.int i) = true := rfl
@[simp] theorem eqP_str (a b : Str) : eqP (.str a) (.str b) = (a == b) := rfl
@[simp] theorem eqP_ns (b : Str) : eqP .non (.str b) = false := rfl
@[simp] theorem eqP_sn (b : Str) : eqP (.str b) .non = false := rfl
@[simp] theorem eqP_nn : eqP .non .non = true := rfl
@[simp] theorem src_tup (l : List PV) : srcOf h (.tup l) = some (.its l) := rfl
@[simp] theorem src_fro (l : List PV) : srcOf h (.fro l) = some (.its l) := rfl
theorem src_ref {n : Nat} {l : List PV} (e : h[n]? = some (.lst l)) : srcOf h (.ref n) = some (.ref n) := by simp [srcOf, e]
@[simp] theorem src_str (x : Str) : srcOf h (.str x) = some (.its (x.cps.toList.map fun c => .str ⟨#[c]⟩)) := rfl
@[simp] theorem newO_eq (o : PO) : newO o h = .ok (.ref h.length) (h ++ [o]) := rfl
/-- a text, or nothing -/
def vS : Option Str → PV
  | none => .non
  | some s => .str s
@[simp] theorem vS_none : vS none = .non := rfl
@[simp] theorem vS_some (s : Str) : vS (some s) = .str s := rfl
theorem vS_inj {a b : Option Str} (e : vS a = vS b) : a = b := by cases a <;> cases b <;> simp_all [vS]
@[simp] theorem flat_vS (s : Option Str) : isFlat (vS s) = true := by cases s <;> rfl
theorem eqP_vS (a b : Option Str) : eqP (vS a) (vS b) = (a == b) := by cases a <;> cases b <;> simp
@[simp] theorem q_is_vS (a : Option Str) : cmpE P F .is (vS a) .non h = .ok (.bl a.isNone) h := by cases a <;> rfl
@[simp] theorem q_isn_vS (a : Option Str) : cmpE P F .isNot (vS a) .non h = .ok (.bl a.isSome) h := by cases a <;> rfl
/-- x in (..) of texts -/
theorem q_in_vS (a : Option Str) (l : List (Option Str)) : cmpE P F .isIn (vS a) (.tup (l.map vS)) h = .ok (.bl (l.contains a)) h := by
  have h1 : (l.map vS).all isFlat = true := by simp
  have h2 : ∀ l : List (Option Str), (l.map vS).any (fun z => eqP z (vS a)) = l.contains a := fun l => by
    induction l with
    | nil => rfl
    | cons x r ih =>
      rw [List.map_cons, List.any_cons, ih, List.contains_cons, eqP_vS]
      congr 1
      rw [Bool.eq_iff_iff, beq_iff_eq, beq_iff_eq]
      exact eq_comm
  have h2 := h2 l
  cases a <;> simp only [cmpE, doCmp, vS_none, vS_some, seq_tup] <;> simp only [vS_none, vS_some] at h2 <;> simp [h1, h2]
theorem map_vS (l : List Str) : (l.map PV.str) = (l.map some).map vS := by rw [List.map_map]; rfl
theorem q_in_str (a : Option Str) (l : List Str) : cmpE P F .isIn (vS a) (.tup (l.map .str)) h = .ok (.bl ((l.map some).contains a)) h := by rw [map_vS, q_in_vS]
theorem q_in_ref {n : Nat} {l : List PV} {x : PV} (e : h[n]? = some (.lst l)) (hx : ∀ s, x ≠ .str s ∨ True) : cmpE P F .isIn x (.ref n) h = cmpE P F .isIn x (.tup l) h := by
  cases x <;> simp [cmpE, doCmp, seqOf, e]

@[simp] theorem atI0 {α : Type} (a : α) (l : List α) : atI (a :: l) 0 = some a := atI_nat (j := 0) rfl
@[simp] theorem atI1 {α : Type} (a b : α) (l : List α) : atI (a :: b :: l) 1 = some b := atI_nat (j := 1) rfl
@[simp] theorem atI2 {α : Type} (a b c : α) (l : List α) : atI (a :: b :: c :: l) 2 = some c := atI_nat (j := 2) rfl
@[simp] theorem atI3 {α : Type} (a b c d : α) (l : List α) : atI (a :: b :: c :: d :: l) 3 = some d := atI_nat (j := 3) rfl
@[simp] theorem atI4 {α : Type} (a b c d e : α) (l : List α) : atI (a :: b :: c :: d :: e :: l) 4 = some e := atI_nat (j := 4) rfl
@[simp] theorem atI5 {α : Type} (a b c d e f : α) (l : List α) : atI (a :: b :: c :: d :: e :: f :: l) 5 = some f := atI_nat (j := 5) rfl
@[simp] theorem q_ix_tup (l : List PV) (i : Int) : doIx (.tup l) (.int i) h = Rs.of (atI l i) h := rfl
@[simp] theorem q_ix_fro (l : List PV) (i : Int) : doIx (.fro l) (.int i) h = Rs.of (atI l i) h := rfl
theorem q_ix_ref {n : Nat} {l : List PV} (i : Int) (e : h[n]? = some (.lst l)) : doIx (.ref n) (.int i) h = Rs.of (atI l i) h := by simp [doIx, seqOf, e]
theorem sat_eq {α : Type} {r : Rs α} {v : α} {h : PH} (s : sat r fun a h' => a = v ∧ h' = h) : r = .ok v h := by
  cases r with
  | ok a h' => obtain ⟨rfl, rfl⟩ := s; rfl
  | er _ _ _ => exact s.elim
  | bad => exact s.elim
theorem eq_sat {α : Type} {r : Rs α} {v : α} {h : PH} {Q : α → PH → Prop} (e : r = .ok v h) (q : Q v h) : sat r Q := by rw [e]; exact q
/-- a list of the heap, a tuple -/
def SeqV (h : PH) (v : PV) (l : List PV) : Prop := v = .tup l ∨ ∃ n, v = .ref n ∧ h[n]? = some (.lst l)
theorem SeqV.ex {h' : PH} {v : PV} {l : List PV} (s : SeqV h v l) (x : Ex h h') : SeqV h' v l := s.imp id fun ⟨n, e, g⟩ => ⟨n, e, x _ _ g⟩
theorem SeqV.seq {v : PV} {l : List PV} (s : SeqV h v l) : seqOf h v = some l := by
  rcases s with rfl | ⟨n, rfl, e⟩
  · rfl
  · exact seq_ref e
theorem SeqV.len {v : PV} {l : List PV} (s : SeqV h v l) : doBlt .len [v] h = .ok (.int l.length) h := by
  rcases s with rfl | ⟨n, rfl, e⟩
  · rfl
  · exact q_len_ref e
theorem SeqV.src {v : PV} {l : List PV} (s : SeqV h v l) : ∃ r, srcOf h v = some r ∧ ∀ h', Ex h h' → Yields r (l.map .one) h' := by
  rcases s with rfl | ⟨n, rfl, e⟩
  · exact ⟨_, rfl, fun h' _ => yields_its l h'⟩
  · exact ⟨_, src_ref e, fun h' x => yields_ref (x _ _ e)⟩
theorem yields_enum {r : Src} {l : List PV} (y : Yields r (l.map .one) h) (ha : ∀ i, r.at h i = l[i]?) : Yields (.enum r) (l.mapIdx fun i x => .two (.int (i : Nat)) x) h := by
  refine ⟨by simp [Src.len, y.1], fun i => ?_⟩
  simp only [Src.get, ha, List.getElem?_mapIdx]
theorem SeqV.srcN {v : PV} {l : List PV} (s : SeqV h v l) : ∃ r, R.srcN h v = some r ∧ ∀ h', Ex h h' → Yields r (l.mapIdx fun i x => .two (.int (i : Nat)) x) h' := by
  rcases s with rfl | ⟨n, rfl, e⟩
  · exact ⟨_, rfl, fun h' _ => yields_enum (yields_its l h') fun i => rfl⟩
  · exact ⟨.enum (.ref n), by simp [R.srcN, srcOf, e], fun h' x => yields_enum (yields_ref (x _ _ e)) fun i => by simp [Src.at, x _ _ e]⟩
theorem SeqV.isIn {v : PV} {l : List PV} (s : SeqV h v l) (x : PV) : cmpE P F .isIn x v h = cmpE P F .isIn x (.tup l) h := by
  rcases s with rfl | ⟨n, rfl, e⟩
  · rfl
  · cases x <;> simp [cmpE, doCmp, seqOf, e]
theorem SeqV.list {v : PV} {l : List PV} (s : SeqV h v l) : doBlt .list [v] h = .ok (.ref h.length) (h ++ [.lst l]) := by
  rcases s with rfl | ⟨n, rfl, e⟩
  · rfl
  · rw [q_list_ref e]; rfl
theorem SeqV.ix {v : PV} {l : List PV} (s : SeqV h v l) (i : Int) : doIx v (.int i) h = Rs.of (atI l i) h := by
  rcases s with rfl | ⟨n, rfl, e⟩
  · rfl
  · exact q_ix_ref i e
theorem atI_of {α : Type} {l : List α} {i : Nat} (hi : i < l.length) : atI l (i : Int) = some l[i] := atI_nat (List.getElem?_eq_getElem hi)
/-- a comprehension's items, each computed without a change -/
theorem cl_map {tg : Tg} {vs : List Nat} {c : Sl → PH → Rs Bool} {body : Sl → PH → List PV → Rs (List PV)} {src : Src} {sl : Sl} {l : List Itm} {f : Itm → PV} (acc : List PV) (hy : Yields src l h)
    (hs : ∀ x ∈ l, ∃ s1, asg tg x h (wipeS sl vs) = some s1 ∧ c s1 h = .ok true h ∧ ∀ acc, acc.length < sizeL → body s1 h acc = .ok (acc ++ [f x]) h) (hz : acc.length + l.length ≤ sizeL) :
    (match src.len h with
      | some n => clGo tg vs c body src sl n 0 acc h
      | none => .bad) = .ok (acc ++ l.map f) h := by
  refine sat_eq (cl_all (Inv := fun pre a h' => a = acc ++ pre.map f ∧ h' = h) ⟨by simp, rfl⟩ (fun pre a h' ⟨_, e⟩ => e ▸ hy) (fun pre x post a h' hl ⟨ea, eh⟩ => ?_) fun a h' ⟨e1, e2⟩ => ⟨e1, e2⟩)
  subst eh
  obtain ⟨s1, h1, h2, h3⟩ := hs x (by rw [hl]; simp)
  refine ⟨s1, h1, ?_⟩
  rw [h2]
  show sat (body s1 h' a) _
  rw [h3 a (by
    rw [ea, List.length_append, List.length_map]
    have := congrArg List.length hl
    rw [List.length_append, List.length_cons] at this
    omega)]
  exact ⟨by rw [ea]; simp, rfl⟩
/-- a clause's turns, each adding some items without a change -/
theorem cl_flat {tg : Tg} {vs : List Nat} {c : Sl → PH → Rs Bool} {body : Sl → PH → List PV → Rs (List PV)} {src : Src} {sl : Sl} {l : List Itm} {g : Itm → List PV} (acc : List PV) (hy : Yields src l h)
    (hs : ∀ x ∈ l, ∃ s1, asg tg x h (wipeS sl vs) = some s1 ∧ c s1 h = .ok true h ∧ ∀ acc, acc.length + (g x).length ≤ sizeL → body s1 h acc = .ok (acc ++ g x) h) (hz : acc.length + (l.flatMap g).length ≤ sizeL) :
    (match src.len h with
      | some n => clGo tg vs c body src sl n 0 acc h
      | none => .bad) = .ok (acc ++ l.flatMap g) h := by
  refine sat_eq (cl_all (Inv := fun pre a h' => a = acc ++ pre.flatMap g ∧ h' = h) ⟨by simp, rfl⟩ (fun pre a h' ⟨_, e⟩ => e ▸ hy) (fun pre x post a h' hl ⟨ea, eh⟩ => ?_) fun a h' ⟨e1, e2⟩ => ⟨e1, e2⟩)
  subst eh
  obtain ⟨s1, h1, h2, h3⟩ := hs x (by rw [hl]; simp)
  refine ⟨s1, h1, ?_⟩
  rw [h2]
  show sat (body s1 h' a) _
  rw [h3 a (by
    rw [ea, List.length_append]
    rw [hl, List.flatMap_append, List.flatMap_cons, List.length_append, List.length_append] at hz
    omega)]
  exact ⟨by rw [ea]; simp, rfl⟩
@[simp] theorem q_append {n : Nat} {l : List PV} {x : PV} (e : h[n]? = some (.lst l)) (hz : l.length < sizeL) : doBm true .append (.ref n) [x] h = .ok .non (h.set n (.lst (l ++ [x]))) := by
  simp only [doBm, doBmL, e, mAppend]
  rw [if_pos hz]
theorem q_bmK {n : Nat} {l : List PV} {m : Bm} (e : h[n]? = some (.lst l)) : bmK m h (.ref n) = some true := by cases m <;> simp [bmK, e]
theorem forx {tg : Tg} {it : E} {b : List S} {sl : Sl} {h' : PH} {D : Po} {r : Src} (hit : evIt P F it sl h = .ok r h') (s : osat (match r.len h' with
      | some n => forGo r tg (fun s h => exs P F b s h) n 0 sl h'
      | none => .bad) D) : osat (ex P F (.for tg it b) sl h) D := by
  simp only [ex, hit, osat_out, sat_ok]
  exact s
end
end R
end

section
set_option Elab.async false
set_option linter.all false
set_option maxRecDepth 100000
set_option maxHeartbeats 1000000
/-! Values that tell plain data: ==, !=. -/
namespace R
open PySem L2
def dd (h : PH) (v : PV) : PyData := (dat h 60 v).getD .none
/-- a value tells plain data, of depth at most k -/
structure DV (h : PH) (k : Nat) (v : PV) : Prop where
  e : ∀ j, k ≤ j → j ≤ 60 → dat h j v = some (dd h v)
  c : (dd h v).canLay0 = true
  p : (dd h v).depth ≤ k
  le : k ≤ 60
theorem dv_of {h : PH} {k : Nat} {v : PV} {d : PyData} (hk : k ≤ 60) (e : ∀ j, k ≤ j → j ≤ 60 → dat h j v = some d) (c : d.canLay0 = true) (p : d.depth ≤ k) : DV h k v ∧ dd h v = d := by
  have : dd h v = d := by unfold dd; rw [e 60 hk (Nat.le_refl _)]; rfl
  exact ⟨⟨by rw [this]; exact e, by rw [this]; exact c, by rw [this]; exact p, hk⟩, this⟩
theorem dv_flat {h : PH} {v : PV} {d : PyData} (e : ∀ j, dat h (j + 1) v = some d) (c : d.canLay0 = true) (p : d.depth = 0) : DV h 1 v ∧ dd h v = d :=
  dv_of (by decide) (fun j h1 h2 => by
    obtain ⟨i, rfl⟩ : ∃ i, j = i + 1 := ⟨j - 1, by omega⟩
    exact e i) c (by omega)
theorem dv_non {h : PH} : DV h 1 .non ∧ dd h .non = .none := dv_flat (fun _ => rfl) (by simp [PyData.canLay0]) (by simp [PyData.depth])
theorem dv_bl {h : PH} (b : Bool) : DV h 1 (.bl b) ∧ dd h (.bl b) = .bool b := dv_flat (fun _ => rfl) (by simp [PyData.canLay0]) (by simp [PyData.depth])
theorem dv_int {h : PH} (i : Int) : DV h 1 (.int i) ∧ dd h (.int i) = .int i := dv_flat (fun _ => rfl) (by simp [PyData.canLay0]) (by simp [PyData.depth])
theorem dv_str {h : PH} {s : Str} (o : PyData.strOk s = true) : DV h 1 (.str s) ∧ dd h (.str s) = .str s := dv_flat (fun _ => rfl) (by simpa [PyData.canLay0] using o) (by simp [PyData.depth])
theorem canAll {l : List PyData} (h : ∀ d ∈ l, d.canLay0 = true) : PyData.canLayAll0 l = true := by
  induction l with
  | nil => rfl
  | cons d l ih =>
    rw [PyData.canLayAll0, h d List.mem_cons_self, ih fun x hx => h x (List.mem_cons_of_mem _ hx)]
    rfl
theorem depAll {k : Nat} {l : List PyData} (h : ∀ d ∈ l, d.depth ≤ k) : PyData.depthAll l ≤ k := by
  induction l with
  | nil => exact Nat.zero_le _
  | cons d l ih =>
    rw [PyData.depthAll]
    exact Nat.max_le.mpr ⟨h d List.mem_cons_self, ih fun x hx => h x (List.mem_cons_of_mem _ hx)⟩
theorem mapM_some {α β : Type} {f : α → Option β} {g : α → β} : ∀ {l : List α}, (∀ x ∈ l, f x = some (g x)) → l.mapM f = some (l.map g)
  | [], _ => rfl
  | a :: l, h => by
    rw [List.mapM_cons, h a List.mem_cons_self, mapM_some (fun x hx => h x (List.mem_cons_of_mem _ hx))]
    rfl
theorem dv_seq {h : PH} {k : Nat} {v : PV} {l : List PV} {C : List PyData → PyData} (hk : k < 60) (hl : ∀ x ∈ l, DV h k x)
    (e : ∀ j, dat h (j + 1) v = (l.mapM (dat h j)).map C) (cc : ∀ ds, PyData.canLayAll0 ds = true → (C ds).canLay0 = true) (cp : ∀ ds, (C ds).depth = PyData.depthAll ds + 1) : DV h (k + 1) v ∧ dd h v = C (l.map (dd h)) := by
  refine dv_of hk (fun j h1 h2 => ?_) (cc _ (canAll fun d hd => ?_)) ?_
  · obtain ⟨i, rfl⟩ : ∃ i, j = i + 1 := ⟨j - 1, by omega⟩
    rw [e, mapM_some (g := dd h) fun x hx => (hl x hx).e i (by omega) (by omega)]
    rfl
  · obtain ⟨x, hx, rfl⟩ := List.mem_map.mp hd
    exact (hl x hx).c
  · rw [cp]
    refine Nat.succ_le_succ (depAll fun d hd => ?_)
    obtain ⟨x, hx, rfl⟩ := List.mem_map.mp hd
    exact (hl x hx).p
theorem dv_tup {h : PH} {k : Nat} {l : List PV} (hk : k < 60) (hl : ∀ x ∈ l, DV h k x) : DV h (k + 1) (.tup l) ∧ dd h (.tup l) = .tuple (l.map (dd h)) :=
  dv_seq hk hl (fun j => rfl) (fun ds c => by simpa [PyData.canLay0] using c) fun ds => by simp [PyData.depth]
theorem dv_fro {h : PH} {k : Nat} {l : List PV} (hk : k < 60) (hl : ∀ x ∈ l, DV h k x) : DV h (k + 1) (.fro l) ∧ dd h (.fro l) = .list (l.map (dd h)) :=
  dv_seq hk hl (fun j => rfl) (fun ds c => by simpa [PyData.canLay0] using c) fun ds => by simp [PyData.depth]
theorem dv_ref {h : PH} {k n : Nat} {l : List PV} (hk : k < 60) (hn : h[n]? = some (.lst l)) (hl : ∀ x ∈ l, DV h k x) : DV h (k + 1) (.ref n) ∧ dd h (.ref n) = .list (l.map (dd h)) :=
  dv_seq hk hl (fun j => by simp only [dat, hn]) (fun ds c => by simpa [PyData.canLay0] using c) fun ds => by simp [PyData.depth]
theorem DV.mono {h : PH} {k m : Nat} {v : PV} (d : DV h k v) (hm : k ≤ m) (h60 : m ≤ 60) : DV h m v := ⟨fun j h1 h2 => d.e j (by omega) h2, d.c, by have := d.p; omega, h60⟩
theorem DV.sh {h : PH} {k : Nat} {v : PV} (d : DV h k v) : SeqAt.shaped (dd h v) = true := by
  unfold SeqAt.shaped
  rw [d.c, decide_eq_true (by have := d.p; have := d.le; omega)]
  rfl
theorem d_eq {h : PH} {k m : Nat} {a b : PV} (da : DV h k a) (db : DV h m b) (n : scalP a b = false) : doCmp .eq a b h = .ok (.bl (PyData.eqv (dd h a) (dd h b))) h := by
  simp only [doCmp, n, da.e 60 da.le (Nat.le_refl _), db.e 60 db.le (Nat.le_refl _), da.sh, db.sh]
  rfl
theorem d_ne {h : PH} {k m : Nat} {a b : PV} (da : DV h k a) (db : DV h m b) (n : scalP a b = false) : doCmp .ne a b h = .ok (.bl (!PyData.eqv (dd h a) (dd h b))) h := by
  simp only [doCmp, n, da.e 60 da.le (Nat.le_refl _), db.e 60 db.le (Nat.le_refl _), da.sh, db.sh]
  rfl
theorem d_eq_same {h : PH} {k m : Nat} {a b : PV} (da : DV h k a) (db : DV h m b) (n : scalP a b = false) (e : dd h a = dd h b) : doCmp .eq a b h = .ok (.bl true) h := by
  rw [d_eq da db n, e, SeqAt.eqv_refl _ db.c]
theorem d_ne_same {h : PH} {k m : Nat} {a b : PV} (da : DV h k a) (db : DV h m b) (n : scalP a b = false) (e : dd h a = dd h b) : doCmp .ne a b h = .ok (.bl false) h := by
  rw [d_ne da db n, e, SeqAt.eqv_refl _ db.c]
  rfl
/-- a list, != [] -/
theorem d_ne_nil {h : PH} {k n m : Nat} {l : List PV} (hk : k < 60) (hn : h[n]? = some (.lst l)) (hm : h[m]? = some (.lst [])) (hl : ∀ x ∈ l, DV h k x) : doCmp .ne (.ref n) (.ref m) h = .ok (.bl (!l.isEmpty)) h := by
  have a := dv_ref hk hn hl
  have b := dv_ref (k := 0) (by decide) hm (fun x hx => absurd hx List.not_mem_nil)
  rw [d_ne a.1 b.1 rfl, a.2, b.2]
  cases l <;> simp [PyData.eqv, PyData.eqvAll]
end R
end

section
set_option Elab.async false
set_option linter.all false
set_option maxRecDepth 100000
set_option maxHeartbeats 4000000
/-! The head: what the run of the top leaves, as the facts that the walk asks. -/
namespace R
open PySem PySem.Spec PyProof.Rows L2
open PySem.W (Frag nsIn findIn keepIn isFn specialIn takesIn kitOne mroIn)
/-- a def: the own program's, its text, where it stands -/
structure HDef where
  d : FnDf
  t : DTx
  at_ : Str × Option Str
structure HI where
  P : Pg
  g0 : List (Str × Gk)
  own : List Str
  kwc : List (Str × List Str × List Nat)
  ds : List HDef
def HI.g (I : HI) : GE := fun x => I.g0.lookup x
def HI.cp (I : HI) : CP := ⟨I.g, I.own, I.kwc⟩
def HI.hd (I : HI) (d : Str) : Option HDef := I.ds.find? fun r => r.d.name == d
def HI.fad (I : HI) (K : Frag) (d : Str) : Addr := match I.hd d with
  | some r => He.fAd K r.at_
  | none => 0
def fd0 : FuncData := PySem.W.fnOf Str.empty Str.empty ⟨[], [], none, [], [], none, []⟩ [] ⟨.function, [], false, false, []⟩ .none .none .none .none none .none .none
def HI.fdo (I : HI) (K : Frag) (d : Str) : FuncData := match K.lookup (I.fad K d) with
  | some ⟨_, _, .func fd, _⟩ => fd
  | _ => fd0
def HI.pso (I : HI) (d : Str) : List Str := match I.hd d with
  | some r => r.t.ps
  | none => []
def HDef.defD (r : HDef) : He.DefD := ⟨r.at_, r.t.x, r.t.qual, r.t.params, r.t.body, r.t.scope, [], []⟩

/-! ### constants -/
mutual
def conV (K : Frag) : PV → Value → Bool
  | .non, u => (match u with
    | .none => true
    | _ => false)
  | .bl b, u => (match u with
    | .bool c => b == c
    | _ => false)
  | .int i, u => (match u with
    | .int j _ => decide (i = j)
    | _ => false)
  | .str x, u => (match u with
    | .str y _ => decide (x = y)
    | _ => false)
  | .tup l, u => (match u with
    | .ref a => (match K.lookup a with
      | some ⟨.type c, none, .seq its _, _⟩ => decide (c = "tuple") && (decide (its.size ≤ sizeLine) && conVs K l its.toList)
      | _ => false)
    | _ => false)
  | .fro l, u => (match u with
    | .ref a => (match K.lookup a with
      | some ⟨.type c, none, .seq its _, _⟩ => decide (c = "list") && (decide (its.size ≤ sizeLine) && conVs K l its.toList)
      | _ => false)
    | _ => false)
  | _, _ => false
def conVs (K : Frag) : List PV → List Value → Bool
  | [], us => us.isEmpty
  | x :: l, us => (match us with
    | u :: us => conV K x u && conVs K l us
    | [] => false)
end
theorem ba {a b : Bool} (h : (a && b) = true) : a = true ∧ b = true := Bool.and_eq_true_iff.mp h
/-- the abstract value of a value -/
def vOf : PV → Value → V
  | .non, _ => .non
  | .bl b, _ => .bl b
  | .int i, _ => .int i
  | .str x, _ => .str x
  | _, .ref a => .ref a
  | _, _ => .non
mutual
theorem conV_ok {K : Frag} : ∀ (x : PV) (u : Value), conV K x u = true → RelV (vOf x u) u ∧ ∀ ρ H, RP K ρ H x (vOf x u)
  | .non, u, h => by
    cases u <;> first | (simp [conV] at h; done) | skip
    exact ⟨rfl, fun _ _ => .non⟩
  | .bl b, u, h => by
    cases u <;> first | (simp [conV] at h; done) | skip
    simp only [conV, beq_iff_eq] at h
    subst h
    exact ⟨rfl, fun _ _ => .bl _⟩
  | .int i, u, h => by
    cases u <;> first | (simp [conV] at h; done) | skip
    simp only [conV, decide_eq_true_eq] at h
    subst h
    exact ⟨⟨_, rfl⟩, fun _ _ => .int _⟩
  | .str x, u, h => by
    cases u <;> first | (simp [conV] at h; done) | skip
    simp only [conV, decide_eq_true_eq] at h
    subst h
    exact ⟨⟨_, rfl⟩, fun _ _ => .str _⟩
  | .tup l, u, h => by
    cases u <;> first | (simp [conV] at h; done) | skip
    rename_i a
    simp only [conV] at h
    split at h
    · rename_i c its n sl e
      obtain ⟨h1, h2⟩ := ba h
      obtain ⟨h3, h4⟩ := ba h2
      obtain ⟨vs, r1, r2⟩ := conVs_ok l its.toList h4
      have ec : c = "tuple" := of_decide_eq_true h1
      subst ec
      exact ⟨rfl, fun ρ H => .tup (.inr ⟨_, its, n, e, rfl, rfl, rfl, of_decide_eq_true h3, r1⟩) (r2 ρ H)⟩
    · cases h
  | .fro l, u, h => by
    cases u <;> first | (simp [conV] at h; done) | skip
    rename_i a
    simp only [conV] at h
    split at h
    · rename_i c its n sl e
      obtain ⟨h1, h2⟩ := ba h
      obtain ⟨h3, h4⟩ := ba h2
      obtain ⟨vs, r1, r2⟩ := conVs_ok l its.toList h4
      have ec : c = "list" := of_decide_eq_true h1
      subst ec
      exact ⟨rfl, fun ρ H => .frk (fun _ => .inr ⟨_, its, n, e, rfl, rfl, rfl, of_decide_eq_true h3, r1⟩) (r2 ρ H)⟩
    · cases h
  | .ref _, u, h => by simp [conV] at h
  | .glo _, u, h => by simp [conV] at h
theorem conVs_ok {K : Frag} : ∀ (l : List PV) (us : List Value), conVs K l us = true → ∃ vs, Vals vs us ∧ ∀ ρ H, RPs K ρ H l vs
  | [], us, h => by
    simp only [conVs, List.isEmpty_iff] at h
    subst h
    exact ⟨[], .nil, fun _ _ => .nil⟩
  | x :: l, us, h => by
    cases us with
    | nil => simp [conVs] at h
    | cons u us =>
      simp only [conVs] at h
      obtain ⟨h1, h2⟩ := ba h
      obtain ⟨r1, r2⟩ := conV_ok x u h1
      obtain ⟨vs, r3, r4⟩ := conVs_ok l us h2
      exact ⟨_, .cons r1 r3, fun ρ H => .cons (r2 ρ H) (r4 ρ H)⟩
end

/-! ### what is looked at -/
def eqO (a b : Option (Option Value)) : Bool := decide (a = b)
def eqB (a : Option Bool) (b : Bool) : Bool := decide (a = some b)
def clsB (K : Frag) (C : Addr) : Bool := PySem.W.plainGet K C Str.empty && (PySem.W.hasDictIn K C && (PySem.W.plainOver K C && eqO (findIn K (.ref C) "__setattr__") (some (some (.builtin "object.__setattr__")))))
theorem clsB_ok {K : Frag} {C : Addr} (h : clsB K C = true) : Cls K C :=
  have ⟨h1, h2⟩ := ba h
  have ⟨h3, h4⟩ := ba h2
  have ⟨h5, h6⟩ := ba h4
  ⟨h1, h3, h5, of_decide_eq_true h6⟩
def metB (K : Frag) (C : Addr) (m : Str) (f : Addr) : Bool := eqO (findIn K (.ref C) m) (some (some (.ref f))) && (isFn K (.ref f) && (keepIn K (.ref f) && (eqO (specialIn K (.ref f) "__get__") (some (some (.builtin "function.__get__"))) && (eqB (takesIn K (.ref f)) false && (!(PySem.W.copiedNames.contains m) && PySem.W.fnIn K f)))))
theorem metB_ok {K : Frag} {C f : Addr} {m : Str} (h : metB K C m f = true) : BMeth K C m f :=
  have ⟨h1, h⟩ := ba h
  have ⟨h2, h⟩ := ba h
  have ⟨h3, h⟩ := ba h
  have ⟨h4, h⟩ := ba h
  have ⟨h5, h⟩ := ba h
  have ⟨h6, h7⟩ := ba h
  ⟨⟨of_decide_eq_true h1, h2, h3⟩, of_decide_eq_true h4, of_decide_eq_true h5, by simpa using h6, h7⟩
def mkB (K : Frag) (C f : Addr) : Bool := PySem.W.makesIn K C && (eqO (findIn K (.ref C) "__init__") (some (some (.ref f))) && (isFn K (.ref f) && keepIn K (.ref C)))
theorem mkB_ok {K : Frag} {C f : Addr} (h : mkB K C f = true) : Mk K C f :=
  have ⟨h1, h⟩ := ba h
  have ⟨h2, h⟩ := ba h
  have ⟨h3, h4⟩ := ba h
  ⟨h1, of_decide_eq_true h2, h3, h4⟩
def gkB (I : HI) (K : Frag) (x : Str) : Gk → Bool
  | .con v => (match nsIn K mainGlobals x with
    | some (some u) => conV K v u
    | _ => false)
  | .fn ps => eqO (nsIn K mainGlobals x) (some (some (.ref (I.fad K x)))) && (keepIn K (.ref (I.fad K x)) && (decide (I.pso x = ps) && decide (He.ga K x = I.fad K x)))
  | .cls => eqO (nsIn K mainGlobals x) (some (some (.ref (He.ga K x)))) && keepIn K (.ref (He.ga K x))
  | .free => eqO (nsIn K mainGlobals x) (some none)
def tyL : List String := ["NoneType", "bool", "int", "str", "tuple", "list", "dict"]
def tyO : List String := ["bool", "int", "str", "tuple", "list", "dict"]
def HI.ex (I : HI) (K : Frag) : Bool :=
  (I.g0.all fun r => gkB I K r.1 r.2) &&
  ((I.P.glb.all fun x => decide (He.ga K x = I.fad K x) && keepIn K (.ref (I.fad K x))) &&
  ((I.P.met.all fun r => (if r.2.1 = strInit then mkB K (He.ga K r.1) (I.fad K r.2.2) else true) && (clsB K (He.ga K r.1) && (metB K (He.ga K r.1) r.2.1 (I.fad K r.2.2) && (if r.2.1 = strEqS then eqO (findIn K (.ref (He.ga K r.1)) "__ne__") (some (some (.builtin "object.__ne__"))) && eqB (mroIn K (He.ga K r.1) (.type "object")) true else true)))) &&
  ((I.P.fld.all fun r => clsB K (He.ga K r.1) && r.2.all fun f => eqO (findIn K (.ref (He.ga K r.1)) f) (some none)) &&
  ((I.P.icl.all fun C => tyL.all fun t => eqB (kitOne K (.type t) (.ref (He.ga K C))) false) &&
  ((I.P.mro.all fun r => (tyO.all fun t => eqB (kitOne K (.ref (He.ga K r.1)) (.type t)) false) && ((I.P.icl.all fun C => eqB (kitOne K (.ref (He.ga K r.1)) (.ref (He.ga K C))) (r.2.contains C)) && (clsB K (He.ga K r.1) && (eqO (findIn K (.ref (He.ga K r.1)) "__class__") (some (some (.builtin "object.__class__"))) && eqB (mroIn K (He.ga K r.1) (.type "object")) true)))) &&
  (eqO (specialIn K (.builtin "object.__class__") "__get__") (some (some (.builtin "getset_descriptor.__get__"))) && eqB (takesIn K (.builtin "object.__class__")) true))))))

/-! ### what hangs on the text alone -/
def loc1 (sc : Scope) (x : Str) : Bool := match sc.names.lookup x with
  | some .local => true
  | some .cell => true
  | _ => false
def scB (N ps : List Str) (sc : Scope) : Bool := decide (sc.kind = .function) && (!sc.isCoroutine && (!sc.isGenerator && (decide N.Nodup && (decide (N.take ps.length = ps) && (ps.all (loc1 sc) && sc.names.all fun y => match y.2 with
  | .free => false
  | _ => true)))))
theorem scB_ok {N ps : List Str} {sc : Scope} (h : scB N ps sc = true) : FnScope N ps sc := by
  obtain ⟨h1, h⟩ := ba h
  obtain ⟨h2, h⟩ := ba h
  obtain ⟨h3, h⟩ := ba h
  obtain ⟨h4, h⟩ := ba h
  obtain ⟨h5, h⟩ := ba h
  obtain ⟨h6, h7⟩ := ba h
  refine ⟨of_decide_eq_true h1, by simpa using h2, by simpa using h3, of_decide_eq_true h4, of_decide_eq_true h5, fun x hx => ?_, fun y hy e => ?_⟩
  · have := List.all_eq_true.mp h6 x hx
    unfold loc1 at this
    split at this
    · exact .inl (by assumption)
    · exact .inr (by assumption)
    · cases this
  · have := List.all_eq_true.mp h7 y hy
    rw [e] at this
    cases this
/-- the parameters are plain ones -/
def plainPs (a : Arguments) (ps : List Str) : Bool := a.posonlyargs.isEmpty && (a.vararg.isNone && (a.kwonlyargs.isEmpty && (a.kw_defaults.isEmpty && (a.kwarg.isNone && (a.defaults.isEmpty && decide (a.args.map (·.arg) = ps))))))

/-- a call by place binds the parameters -/
def BndOk (t : DTx) : Prop := ∀ (kV doc pm : Value) (an : Option Addr) (cdv ct : Value) (us : List Value), us.length = t.ps.length → bindArgs (PySem.W.fnOf t.x t.qual t.params t.body t.scope .none kV doc pm an cdv ct) ⟨us, []⟩ = pure (t.ps.zip us)
def KwdOk (t : DTx) (ks : List Str) (perm : List Nat) : Prop := ∀ (kV doc pm : Value) (an : Option Addr) (cdv ct : Value) (ws : List Value), ws.length = ks.length → bindArgs (PySem.W.fnOf t.x t.qual t.params t.body t.scope .none kV doc pm an cdv ct) ⟨[], ks.zip ws⟩ = pure (t.ps.zip (perm.map fun i => ws.getD i .none))
/-- one def's text is as the own program says -/
structure TxOk (cp : CP) (r : HDef) : Prop where
  sc : scB r.t.ns r.t.ps r.t.scope = true
  cs : cSs cp r.t.ns FS r.t.scope r.t.body = some r.d.body
  np : r.d.np = r.t.ps.length
  ns : r.d.ns = r.t.ns.length
  bd : BndOk r.t
structure HOk' (I : HI) : Prop where
  fns : I.P.fns = I.ds.map (·.d)
  tx : ∀ r ∈ I.ds, TxOk I.cp r
  kw : ∀ q ∈ I.kwc, ∃ r, I.hd q.1 = some r ∧ KwdOk r.t q.2.1 q.2.2
theorem find_map {α β : Type} (f : α → β) (p : β → Bool) : ∀ l : List α, (l.map f).find? p = (l.find? fun a => p (f a)).map f
  | [] => rfl
  | a :: l => by
    rw [List.map_cons, List.find?_cons, List.find?_cons]
    cases p (f a) with
    | true => rfl
    | false => exact find_map f p l
section
variable {I : HI} {K : Frag} {h : Heap} {mg : Str → Option Value}
theorem HI.hd_mem {d : Str} {r : HDef} (e : I.hd d = some r) : r ∈ I.ds ∧ r.d.name = d := ⟨List.mem_of_find?_eq_some e, by have := List.find?_some e; simpa using this⟩
theorem HI.fn_hd (T : HOk' I) {x : Str} {d : FnDf} (e : I.P.fn x = some d) : ∃ r, I.hd x = some r ∧ r.d = d := by
  unfold Pg.fn at e
  rw [T.fns, find_map] at e
  obtain ⟨r, h1, h2⟩ := Option.map_eq_some_iff.mp e
  exact ⟨r, h1, h2⟩
theorem lookup_mem {α : Type} {x : Str} {y : α} : ∀ {l : List (Str × α)}, l.lookup x = some y → (x, y) ∈ l
  | [], h => by cases h
  | (b, u) :: r, h => by
    rw [List.lookup_cons] at h
    split at h
    · rename_i q
      cases h
      rw [beq_iff_eq.mp q]
      exact List.mem_cons_self
    · exact List.mem_cons_of_mem _ (lookup_mem h)
theorem HI.fd_of {r : HDef} {d : Str} (hr : I.hd d = some r) {fd : FuncData} (F : FunD K r.t.x r.t.qual r.t.params r.t.body r.t.scope [] [] (He.fAd K r.at_) fd) : FunD K r.t.x r.t.qual r.t.params r.t.body r.t.scope [] [] (I.fad K d) (I.fdo K d) := by
  have e1 : I.fad K d = He.fAd K r.at_ := by simp only [HI.fad, hr]
  have e2 : I.fdo K d = fd := by
    obtain ⟨_, _, _, _, _, _, _, _, _, _, _, lk, _, _, _⟩ := F.ex
    simp only [HI.fdo, e1, lk]
  rw [e1, e2]
  exact F
theorem HI.fs (T : HOk' I) (X : K.In h) (G : h.Ns mainGlobals mg) (hx : I.ex K = true) (hF : ∀ r ∈ I.ds, ∃ fd, FunD K r.t.x r.t.qual r.t.params r.t.body r.t.scope [] [] (He.fAd K r.at_) fd) :
    Fs I.P I.g (I.fad K) (I.fdo K) I.pso K mg := by
  obtain ⟨a1, hx⟩ := ba hx
  obtain ⟨a2, hx⟩ := ba hx
  obtain ⟨a3, hx⟩ := ba hx
  obtain ⟨a4, hx⟩ := ba hx
  obtain ⟨a5, hx⟩ := ba hx
  obtain ⟨a6, a7⟩ := ba hx
  have g_ : ∀ {x : Str} {k : Gk}, I.g x = some k → gkB I K x k = true := fun e => List.all_eq_true.mp a1 _ (lookup_mem e)
  have met_ : ∀ {C m d : Str}, I.P.meth C m = some d → ∃ r ∈ I.P.met, r = (C, m, d) := fun {C m d} e => by
    unfold Pg.meth at e
    obtain ⟨r, h1, h2⟩ := Option.map_eq_some_iff.mp e
    refine ⟨r, List.mem_of_find?_eq_some h1, ?_⟩
    have := List.find?_some h1
    rw [Bool.and_eq_true, beq_iff_eq, beq_iff_eq] at this
    obtain ⟨r1, r2, r3⟩ := r
    simp only at this h2
    rw [this.1, this.2, h2]
  constructor
  · intro x v e
    have := g_ e
    simp only [gkB] at this
    split at this
    · rename_i u hu
      obtain ⟨r1, r2⟩ := conV_ok v u this
      exact ⟨u, _, PySem.W.mg_of X G hu, r1, r2⟩
    · cases this
  · intro x ps e
    obtain ⟨h1, h2⟩ := ba (g_ e)
    obtain ⟨h2, h3⟩ := ba h2
    obtain ⟨h3, h4⟩ := ba h3
    exact ⟨PySem.W.mg_of X G (of_decide_eq_true h1), h2, of_decide_eq_true h3⟩
  · intro x hg
    have := List.all_eq_true.mp a2 x (by simpa using hg)
    obtain ⟨h1, h2⟩ := ba this
    exact ⟨of_decide_eq_true h1, h2⟩
  · intro x ps e
    obtain ⟨h1, h2⟩ := ba (g_ e)
    obtain ⟨h2, h3⟩ := ba h2
    obtain ⟨h3, h4⟩ := ba h3
    exact of_decide_eq_true h4
  · intro x e
    exact PySem.W.mg_of X G (of_decide_eq_true (ba (g_ e)).1)
  · intro x e
    exact (ba (g_ e)).2
  · intro C d e
    obtain ⟨r, hr, rfl⟩ := met_ e
    have := (ba (List.all_eq_true.mp a3 _ hr)).1
    rw [if_pos rfl] at this
    exact mkB_ok this
  · intro C m d e
    obtain ⟨r, hr, rfl⟩ := met_ e
    have h1 := (ba (List.all_eq_true.mp a3 _ hr)).2
    obtain ⟨h2, h3⟩ := ba h1
    exact ⟨clsB_ok h2, metB_ok (ba h3).1⟩
  · intro C d e
    obtain ⟨r, hr, rfl⟩ := met_ e
    have h1 := (ba (List.all_eq_true.mp a3 _ hr)).2
    obtain ⟨h2, h3⟩ := ba h1
    have h4 := (ba h3).2
    rw [if_pos rfl] at h4
    obtain ⟨h5, h6⟩ := ba h4
    exact ⟨of_decide_eq_true h5, of_decide_eq_true h6⟩
  · intro C f e
    unfold Pg.hasF at e
    cases e1 : I.P.fld.lookup C with
    | none => rw [e1] at e; cases e
    | some l =>
      rw [e1] at e
      have e2 : l.contains f = true := e
      obtain ⟨h1, h2⟩ := ba (List.all_eq_true.mp a4 _ (lookup_mem e1))
      have h3 : eqO (findIn K (.ref (He.ga K C)) f) (some none) = true := List.all_eq_true.mp h2 f (by simpa using e2)
      exact ⟨clsB_ok h1, show findIn K (.ref (He.ga K C)) f = some none from of_decide_eq_true h3⟩
  · intro x e
    exact PySem.W.mg_none_of X G (of_decide_eq_true (g_ e))
  · intro d fd e
    obtain ⟨r, h1, rfl⟩ := HI.fn_hd T e
    obtain ⟨hm, hn⟩ := HI.hd_mem h1
    obtain ⟨fd', F⟩ := hF r hm
    have F2 := HI.fd_of h1 F
    have ep : I.pso d = r.t.ps := by simp only [HI.pso, h1]
    rw [ep]
    exact F2.bindsN ((T.tx r hm).bd)
  · intro C e t ht
    have := List.all_eq_true.mp (List.all_eq_true.mp a5 C (by simpa using e)) t ht
    exact of_decide_eq_true this
  · intro D l e
    obtain ⟨h1, h2⟩ := ba (List.all_eq_true.mp a6 _ (lookup_mem e))
    obtain ⟨h2, h3⟩ := ba h2
    obtain ⟨h3, h4⟩ := ba h3
    obtain ⟨h4, h5⟩ := ba h4
    refine ⟨fun t ht => of_decide_eq_true (List.all_eq_true.mp h1 t ht), fun C hC => of_decide_eq_true (List.all_eq_true.mp h2 C (by simpa using hC)), clsB_ok h3, of_decide_eq_true h4, of_decide_eq_true h5⟩
  · exact ⟨of_decide_eq_true (ba a7).1, of_decide_eq_true (ba a7).2⟩
theorem HI.kwOk (T : HOk' I) (hF : ∀ r ∈ I.ds, ∃ fd, FunD K r.t.x r.t.qual r.t.params r.t.body r.t.scope [] [] (He.fAd K r.at_) fd) : KwOk I.cp (I.fdo K) I.pso K := by
  intro q hq
  obtain ⟨r, h1, hk⟩ := T.kw q hq
  obtain ⟨hm, hn⟩ := HI.hd_mem h1
  obtain ⟨fd', F⟩ := hF r hm
  have F2 := HI.fd_of h1 F
  have ep : I.pso q.1 = r.t.ps := by simp only [HI.pso, h1]
  obtain ⟨_, _, dV, kV, doc, pm, an, cdv, ct, _, e1, lk, _, hD, _⟩ := F2.ex
  rcases hD with ⟨_, rfl⟩ | ⟨e, _⟩
  · refine ⟨fun _ ws => q.2.2.map fun i => ws.getD i .none, fun s us ws X hu hw => ?_, fun {vs us zs ws} r1 r2 => ?_⟩
    · have : us = [] := List.length_eq_zero_iff.mp hu
      subst this
      rw [e1, ep]
      exact .of_eq (hk kV doc pm an cdv ct ws hw)
    · induction q.2.2 with
      | nil => exact .nil
      | cons i l ih =>
        refine .cons ?_ ih
        show RelV (zs.getD i V.non) (ws.getD i Value.none)
        rw [List.getD_eq_getElem?_getD, List.getD_eq_getElem?_getD]
        cases e : zs[i]? with
        | none =>
          rw [r2.none_of e]
          rfl
        | some v =>
          obtain ⟨u, h2, h3⟩ := r2.get e
          rw [h2]
          exact h3
  · exact absurd rfl e
/-- every def keeps its promise at every level -/
theorem HI.all (T : HOk' I) {prog : Program} {w : World} {base : Heap} (X : K.In base) (G : base.Ns mainGlobals mg) (hx : I.ex K = true) (hF : ∀ r ∈ I.ds, ∃ fd, FunD K r.t.x r.t.qual r.t.params r.t.body r.t.scope [] [] (He.fAd K r.at_) fd) (n : Nat) :
    Fd (I.fad K) (I.fdo K) I.pso (Fn I.P n) (2 * n) prog w K mg base := by
  refine fd_all (cp := I.cp) (HI.fs T X G hx hF) (HI.kwOk T hF) (fun x d e => ?_) n
  obtain ⟨r, h1, rfl⟩ := HI.fn_hd T e
  obtain ⟨hm, hn⟩ := HI.hd_mem h1
  obtain ⟨fd', F⟩ := hF r hm
  have tx := T.tx r hm
  refine ⟨hn, r.t, ?_, scB_ok tx.sc, tx.cs, tx.np, tx.ns, ?_⟩
  · rw [hn]
    exact HI.fd_of h1 F
  · rw [hn]
    simp only [HI.pso, h1]
end

/-! ### the law -/
def sLaw : Str := "law"
theorem fro_of {K : Frag} {H : Hp} {a : Addr} {ns : List Int} (hO : Only H) (hS : SqL K H a (ns.map V.int)) : RP K ⟨[], []⟩ H (.fro (ns.map .int)) (.ref a) := by
  rcases hS with (h | ⟨o, h⟩) | h
  · rcases hO a with z | ⟨o, xs, z⟩
    · rw [z] at h; cases h
    · rw [z] at h; cases h
  · exact .fro h (RPs.ofInts ns)
  · exact .frk (fun _ => .inr h) (RPs.ofInts ns)
theorem law_walk {I : HI} (T : HOk' I) {l : PySem.W.OpenLaw} {q : Program} {loose : List Str} {XP : (Str → Option Value) → Heap → Prop} {d : DefRec} {x : Str} {depth n : Nat} (hm : l.most = some 63) (hdf : d.params.defaults = []) (hr : Room (2 * n) callerA) (hdn : d.name = sLaw)
    (hg : I.g sLaw = some (.fn [x])) {r : HDef} (hl : I.hd sLaw = some r) (hps : r.t.ps = [x])
    (holds : ∀ ns : List Int, ns.length ≤ 63 → sat (Fn I.P n sLaw [.fro (ns.map .int)] []) fun v _ => v = .bl true) :
    PySem.W.WalkO q loose XP (He.hookX depth [] (I.ds.map HDef.defD) [] [] I.ex).says l.row.toRowW d [] (fun f vs => PySem.call f vs) := by
  refine g_walk (m := 63) (k := 2 * n) (x := x) hm (by rw [sizeLine_eq]; decide) hdf hr ?_
  rintro wo mg fa h ⟨K, KX, sx⟩ G hmg
  have hx : I.ex K = true := sx.more
  have hF : ∀ r ∈ I.ds, ∃ fd, FunD K r.t.x r.t.qual r.t.params r.t.body r.t.scope [] [] (He.fAd K r.at_) fd := fun r hr =>
    He.SaysD.defs sx.t.d (d := r.defD) (List.mem_map.mpr ⟨r, hr, rfl⟩)
  obtain ⟨hrm, hrn⟩ := HI.hd_mem hl
  obtain ⟨fd', F⟩ := hF r hrm
  have F2 := HI.fd_of hl F
  have ep : I.pso sLaw = [x] := by simp only [HI.pso, hl, hps]
  have efa : fa = I.fad K sLaw := by
    have h1 : gkB I K sLaw (.fn [x]) = true := List.all_eq_true.mp (ba hx).1 _ (lookup_mem hg)
    have h2 := PySem.W.mg_of KX G (of_decide_eq_true (ba h1).1)
    rw [hdn, h2] at hmg
    cases hmg
    rfl
  subst efa
  refine ⟨K, I.fdo K sLaw, spF K (Fn I.P n) sLaw, KX, fun s u => ?_, fun H a ns hn hO hS => ?_, fun ba hb1 hb2 => ?_⟩
  · have := FunD.bindsA (ps := r.t.ps) F2 ((T.tx r hrm).bd) s [u] (by rw [hps]; rfl)
    rw [hps] at this
    exact this
  · refine ⟨⟨[], []⟩, [.fro (ns.map .int)], [], ⟨rfl, List.nodup_nil, fun n o a e => (nomatch e), fun a z => absurd z (List.not_mem_nil), fun a z => absurd z (List.not_mem_nil)⟩, .cons (fro_of hO hS) .nil, ?_⟩
    have := holds ns hn
    revert this
    cases Fn I.P n sLaw [.fro (ns.map .int)] [] with
    | ok v h' =>
      intro hv
      obtain rfl : v = .bl true := hv
      intro ρ' H' v' _ _ _ rv
      cases rv
      rfl
    | er _ _ _ => exact fun z => z.elim
    | bad => exact fun z => z.elim
  · have := HI.all T (prog := l.prog) (w := wo) hb1 hb2 hx hF n sLaw
    rw [ep] at this
    exact this
end R
end

section
set_option Elab.async false
set_option linter.all false
set_option maxRecDepth 100000
set_option maxHeartbeats 0
/-! The program of law k89 in the own language. Printed by lawgen.py. -/
namespace K89
open PySem L2 R
abbrev prog : Program := PySem.Challenge.pw_talkbook_k89_talks_alike
def topS (i : Nat) : Stmt := prog.main.body.getD i (.Pass ⟨0, 0, 0, 0⟩)
def inS (s : Stmt) (j : Nat) : Stmt := match s with
  | .ClassDef _ _ _ b .. => b.getD j (.Pass ⟨0, 0, 0, 0⟩)
  | _ => .Pass ⟨0, 0, 0, 0⟩
def d__wall : FnDf := ⟨"_wall", 1, 1, [
  .whl (.con (.bl true)) [
    .pass]]⟩
def d_is_integer : FnDf := ⟨"is_integer", 1, 1, [
  .ret (.and (.isi (.var 0) ["int"]) (.not (.isi (.var 0) ["bool"])))]⟩
def d_is_between : FnDf := ⟨"is_between", 3, 3, [
  .ret (.and (.fn "is_integer" [(.var 0)]) (.chn .le .le (.var 1) (.var 0) (.var 2)))]⟩
def d_is_name : FnDf := ⟨"is_name", 1, 2, [
  .ret (.and (.isi (.var 0) ["str"]) (.and (.chn .le .le (.con (.int 1)) (.blt .len [(.var 0)]) (.con (.int 8))) (.blt .all [(.lcm true (.one 1) [1] (.itE (.var 0)) (.con (.bl true)) (.emit (.cmp .isIn (.var 1) (.con (.str "abcdefghijklmnopqrstuvwxyz")))))])))]⟩
def d_is_listed : FnDf := ⟨"is_listed", 1, 1, [
  .ret (.isi (.var 0) ["list", "tuple"])]⟩
def d_ascends : FnDf := ⟨"ascends", 1, 3, [
  .ret (.blt .all [(.lcm true (.many [1, 2]) [1, 2] (.itZ (.var 0) (.slF (.var 0) (.con (.int 1)))) (.con (.bl true)) (.emit (.cmp .lt (.var 1) (.var 2))))])]⟩
def d_copied : FnDf := ⟨"copied", 1, 3, [
  .ife (.isi (.var 0) ["list", "tuple"]) [
    .ret (.blt .tuple [(.lcm true (.one 1) [1] (.itE (.var 0)) (.con (.bl true)) (.emit (.fn "copied" [(.var 1)])))])] [],
  .ife (.isi (.var 0) ["dict"]) [
    .bad] [],
  .ret (.var 0)]⟩
def d_is_rule : FnDf := ⟨"is_rule", 3, 4, [
  .ife (.or (.not (.fn "is_listed" [(.var 0)])) (.or (.cmp .ne (.blt .len [(.var 0)]) (.con (.int 6))) (.not (.isi (.ix (.var 0) (.con (.int 5))) ["bool"])))) [
    .ret (.con (.bl false))] [],
  .ife (.not (.blt .all [(.lcm true (.one 3) [3] (.itE (.tup [(.ix (.var 0) (.con (.int 0))), (.ix (.var 0) (.con (.int 1))), (.ix (.var 0) (.con (.int 3))), (.ix (.var 0) (.con (.int 4)))])) (.con (.bl true)) (.emit (.or (.cmp .is (.var 3) (.con .non)) (.isi (.var 3) ["str"]))))])) [
    .ret (.con (.bl false))] [],
  .ife (.or (.and (.cmp .isNot (.ix (.var 0) (.con (.int 0))) (.con .non)) (.cmp .notIn (.ix (.var 0) (.con (.int 0))) (.con (.tup [(.str "lack"), (.str "aside"), (.str "have")])))) (.not (.isi (.ix (.var 0) (.con (.int 2))) ["str"]))) [
    .ret (.con (.bl false))] [],
  .ife (.not (.blt .all [(.lcm true (.one 3) [3] (.itE (.tup [(.ix (.var 0) (.con (.int 1))), (.ix (.var 0) (.con (.int 3)))])) (.con (.bl true)) (.emit (.or (.cmp .is (.var 3) (.con .non)) (.cmp .isIn (.var 3) (.var 1)))))])) [
    .ret (.con (.bl false))] [],
  .ret (.and (.cmp .isIn (.ix (.var 0) (.con (.int 2))) (.tup [(.con (.str "beat")), (.con (.str "give")), (.star (.var 2))])) (.or (.cmp .is (.ix (.var 0) (.con (.int 4))) (.con .non)) (.cmp .isIn (.ix (.var 0) (.con (.int 4))) (.tup [(.con (.str "give")), (.star (.var 2))]))))]⟩
def d_need_talk : FnDf := ⟨"need_talk", 2, 2, [
  .ife (.not (.isi (.var 0) ["Talk"])) [
    .bad] []]⟩
def d_all_cases : FnDf := ⟨"all_cases", 1, 5, [
  .set 1 (.tup [(.con (.str "beat")), (.con (.str "give")), (.star (.fld (.var 0) "words"))]),
  .ret (.lcm false (.one 2) [2, 3, 4] (.itE (.con (.tup [(.str "lack"), (.str "aside"), (.str "have")]))) (.con (.bl true)) (.cl (.one 3) [3, 4] (.itE (.fld (.var 0) "moods")) (.con (.bl true)) (.cl (.one 4) [4] (.itE (.var 1)) (.con (.bl true)) (.emit (.tup [(.var 2), (.var 3), (.var 4)])))))]⟩
def d_says_in : FnDf := ⟨"says_in", 2, 5, [
  .unp [2, 3, 4] (.var 0),
  .ret (.ite (.and (.cmp .eq (.var 2) (.con (.str "lack"))) (.cmp .ne (.var 4) (.con (.str "give")))) (.tup [(.con .non), (.star (.var 1))]) (.tup [(.con .non), (.con (.str "give")), (.star (.var 1))]))]⟩
def d_is_dropping : FnDf := ⟨"is_dropping", 1, 1, [
  .ret (.and (.cmp .eq (.ix (.var 0) (.con (.int 0))) (.con (.str "lack"))) (.cmp .eq (.ix (.var 0) (.con (.int 2))) (.con (.str "give"))))]⟩
def d_places_in : FnDf := ⟨"places_in", 2, 2, [
  .ret (.bin .mul (.bin .mul (.blt .len [(.fld (.var 0) "moods")]) (.blt .len [(.fn "says_in" [(.var 1), (.fld (.var 0) "words")])])) (.ite (.fn "is_dropping" [(.var 1)]) (.con (.int 2)) (.con (.int 1))))]⟩
def d_place_of : FnDf := ⟨"place_of", 2, 7, [
  .unp [4, 5, 6] (.met "answer" (.var 0) [(.star (.var 1))]),
  .set 2 (.fn "says_in" [(.var 1), (.fld (.var 0) "words")]),
  .set 3 (.ite (.cmp .isIn (.var 5) (.var 2)) (.bm .index (.var 2) [(.var 5)]) (.con (.int 0))),
  .ife (.and (.fn "is_dropping" [(.var 1)]) (.not (.var 6))) [
    .set 3 (.bin .add (.var 3) (.blt .len [(.var 2)]))] [],
  .ret (.bin .add (.bm .index (.fld (.var 0) "moods") [(.var 4)]) (.bin .mul (.blt .len [(.fld (.var 0) "moods")]) (.var 3)))]⟩
def d_number_in : FnDf := ⟨"number_in", 1, 4, [
  .unp [2, 3] (.tup [(.con (.int 0)), (.con (.int 1))]),
  .for (.one 1) (.itE (.fn "all_cases" [(.var 0)])) [
    .set 2 (.bin .add (.var 2) (.bin .mul (.var 3) (.fn "place_of" [(.var 0), (.var 1)]))),
    .set 3 (.bin .mul (.var 3) (.fn "places_in" [(.var 0), (.var 1)]))],
  .ret (.var 2)]⟩
def d_many_in : FnDf := ⟨"many_in", 1, 3, [
  .set 1 (.con (.int 1)),
  .for (.one 2) (.itE (.fn "all_cases" [(.var 0)])) [
    .set 1 (.bin .mul (.var 1) (.fn "places_in" [(.var 0), (.var 2)]))],
  .ret (.var 1)]⟩
def d_rule_by : FnDf := ⟨"rule_by", 3, 11, [
  .unp [4, 5, 6] (.var 1),
  .par [7, 8] [(.fn "says_in" [(.var 1), (.fld (.var 0) "words")]), (.ix (.fld (.var 0) "moods") (.bin .mod (.blt .int [(.var 2)]) (.blt .len [(.fld (.var 0) "moods")])))],
  .set 3 (.bin .fdiv (.var 2) (.blt .len [(.fld (.var 0) "moods")])),
  .par [9, 10] [(.ix (.var 7) (.bin .mod (.blt .int [(.var 3)]) (.blt .len [(.var 7)]))), (.cmp .lt (.var 3) (.blt .len [(.var 7)]))],
  .ife (.and (.cmp .eq (.var 8) (.var 5)) (.and (.cmp .is (.var 9) (.con .non)) (.var 10))) [
    .ret (.con .non)] [],
  .ret (.tup [(.var 4), (.var 5), (.var 6), (.ite (.cmp .eq (.var 8) (.var 5)) (.con .non) (.var 8)), (.var 9), (.var 10)])]⟩
def d_plain_by : FnDf := ⟨"plain_by", 2, 6, [
  .set 2 (.lst false []),
  .for (.one 3) (.itE (.fn "all_cases" [(.var 0)])) [
    .set 4 (.fn "places_in" [(.var 0), (.var 3)]),
    .exp (.bm .append (.var 2) [(.fn "rule_by" [(.var 0), (.var 3), (.bin .mod (.blt .int [(.var 1)]) (.var 4))])]),
    .set 1 (.bin .fdiv (.var 1) (.var 4))],
  .ret (.mk "Talk" [(.fld (.var 0) "moods"), (.fld (.var 0) "words"), (.lcm false (.one 5) [5] (.itE (.var 2)) (.cmp .isNot (.var 5) (.con .non)) (.emit (.var 5)))])]⟩
def d_how_many : FnDf := ⟨"how_many", 2, 2, [
  .ret (.fn "many_in" [(.mk "Talk" [(.var 0), (.var 1), (.lst false [])])])]⟩
def d_talk_number : FnDf := ⟨"talk_number", 1, 1, [
  .exp (.fn "need_talk" [(.var 0), (.con (.str "talk"))]),
  .ret (.fn "number_in" [(.var 0)])]⟩
def d_talk_by : FnDf := ⟨"talk_by", 3, 4, [
  .set 3 (.mk "Talk" [(.var 0), (.var 1), (.lst false [])]),
  .ife (.not (.fn "is_between" [(.var 2), (.con (.int 0)), (.bin .sub (.fn "many_in" [(.var 3)]) (.con (.int 1)))])) [
    .bad] [],
  .ret (.fn "plain_by" [(.var 3), (.var 2)])]⟩
def d_plain_talk : FnDf := ⟨"plain_talk", 1, 1, [
  .exp (.fn "need_talk" [(.var 0), (.con (.str "talk"))]),
  .ret (.fn "plain_by" [(.var 0), (.fn "number_in" [(.var 0)])])]⟩
def d_are_kin : FnDf := ⟨"are_kin", 2, 2, [
  .ret (.cmp .eq (.tup [(.fld (.var 0) "moods"), (.fld (.var 0) "words")]) (.tup [(.fld (.var 1) "moods"), (.fld (.var 1) "words")]))]⟩
def d_are_alike : FnDf := ⟨"are_alike", 2, 2, [
  .exp (.fn "need_talk" [(.var 0), (.con (.str "one"))]),
  .exp (.fn "need_talk" [(.var 1), (.con (.str "other"))]),
  .ret (.and (.fn "are_kin" [(.var 0), (.var 1)]) (.cmp .eq (.fn "number_in" [(.var 0)]) (.fn "number_in" [(.var 1)])))]⟩
def d_apart : FnDf := ⟨"apart", 2, 3, [
  .exp (.fn "need_talk" [(.var 0), (.con (.str "one"))]),
  .exp (.fn "need_talk" [(.var 1), (.con (.str "other"))]),
  .ife (.not (.fn "are_kin" [(.var 0), (.var 1)])) [
    .bad] [],
  .ret (.blt .tuple [(.lcm true (.one 2) [2] (.itE (.fn "all_cases" [(.var 0)])) (.cmp .ne (.fn "place_of" [(.var 0), (.var 2)]) (.fn "place_of" [(.var 1), (.var 2)])) (.emit (.var 2)))])]⟩
def d__law_pen : FnDf := ⟨"_law_pen", 1, 3, [
  .set 1 (.con (.int 90012)),
  .for (.one 2) (.itE (.var 0)) [
    .set 1 (.bin .mod (.blt .int [(.bin .add (.bin .add (.bin .mul (.var 1) (.con (.int 1000003))) (.bin .mod (.blt .int [(.var 2)]) (.bin .pow (.con (.int 10)) (.con (.int 18))))) (.con (.int 12466)))]) (.bin .sub (.bin .pow (.con (.int 2)) (.con (.int 61))) (.con (.int 1))))],
  .ret (.lst false [(.var 1)])]⟩
def d__law_draw : FnDf := ⟨"_law_draw", 2, 2, [
  .ife (.cmp .lt (.var 1) (.con (.int 1))) [
    .ret (.con (.int 0))] [],
  .setIx (.var 0) (.con (.int 0)) (.bin .mod (.blt .int [(.bin .add (.bin .mul (.ix (.var 0) (.con (.int 0))) (.con (.int 6364136223846793005))) (.con (.int 1442695040888963407)))]) (.bin .pow (.con (.int 2)) (.con (.int 64)))),
  .ret (.bin .mod (.blt .int [(.bin .fdiv (.ix (.var 0) (.con (.int 0))) (.con (.int 65537)))]) (.var 1))]⟩
def d__law_pick : FnDf := ⟨"_law_pick", 2, 2, [
  .ret (.ix (.var 1) (.fn "_law_draw" [(.var 0), (.blt .len [(.var 1)])]))]⟩
def d__law_mixed : FnDf := ⟨"_law_mixed", 2, 4, [
  .par [2, 3] [(.blt .list [(.var 1)]), (.lst false [])],
  .whl (.cmp .ne (.var 2) (.lst false [])) [
    .exp (.bm .append (.var 3) [(.bm .pop (.var 2) [(.fn "_law_draw" [(.var 0), (.blt .len [(.var 2)])])])])],
  .ret (.var 3)]⟩
def d__law_made : FnDf := ⟨"_law_made", 1, 1, [
  .ret (.mk "Talk" [(.blt .list [(.ix (.var 0) (.con (.str "moods")))]), (.blt .list [(.ix (.var 0) (.con (.str "words")))]), (.blt .list [(.ix (.var 0) (.con (.str "rules")))])])]⟩
def d__law_asking : FnDf := ⟨"_law_asking", 1, 2, [
  .set 1 (.lst false [(.tup [(.con (.str "have")), (.con .non), (.con (.str "beat")), (.con .non), (.con (.str "tell")), (.con (.bl true))]), (.tup [(.con (.str "lack")), (.con .non), (.con (.str "tell")), (.con .non), (.con (.str "want")), (.con (.bl true))]), (.tup [(.con (.str "have")), (.con .non), (.con (.str "want")), (.con .non), (.con (.str "give")), (.con (.bl true))])]),
  .setIx (.var 1) (.fn "_law_draw" [(.var 0), (.con (.int 3))]) (.fn "_law_pick" [(.var 0), (.lst false [(.ix (.var 1) (.con (.int 0))), (.tup [(.con (.str "have")), (.con (.str "b")), (.con (.str "want")), (.con (.str "b")), (.con (.str "give")), (.con (.bl true))]), (.tup [(.con (.str "have")), (.con .non), (.con (.str "want")), (.con (.str "b")), (.con (.str "give")), (.con (.bl true))]), (.tup [(.con (.str "have")), (.con (.str "a")), (.con (.str "beat")), (.con .non), (.con (.str "tell")), (.con (.bl true))])])]),
  .set 1 (.bin .add (.var 1) (.fn "_law_pick" [(.var 0), (.lst false [(.lst false []), (.lst false [(.tup [(.con (.str "lack")), (.con .non), (.con (.str "give")), (.con .non), (.con (.str "tell")), (.con (.bl false))])]), (.lst false [(.tup [(.con (.str "lack")), (.con .non), (.con (.str "give")), (.con .non), (.con (.str "tell")), (.con (.bl true))]), (.tup [(.con (.str "have")), (.con .non), (.con (.str "tell")), (.con (.str "b")), (.con .non), (.con (.bl true))])])])])),
  .ret (.dic ["moods", "words", "rules"] [(.lst false [(.con (.str "a")), (.con (.str "b"))]), (.lst false [(.con (.str "tell")), (.con (.str "want"))]), (.ite (.cmp .eq (.fn "_law_draw" [(.var 0), (.con (.int 3))]) (.con (.int 0))) (.fn "_law_mixed" [(.var 0), (.var 1)]) (.var 1))])]⟩
def d__law_sure : FnDf := ⟨"_law_sure", 1, 2, [
  .set 1 (.lst false [(.tup [(.con (.str "have")), (.fn "_law_pick" [(.var 0), (.lst false [(.con (.str "a")), (.con .non)])]), (.con (.str "beat")), (.con .non), (.con (.str "give")), (.con (.bl true))]), (.tup [(.con (.str "have")), (.con .non), (.con (.str "give")), (.con .non), (.fn "_law_pick" [(.var 0), (.lst false [(.con (.str "tell")), (.con (.str "tell")), (.con .non)])]), (.con (.bl true))])]),
  .set 1 (.bin .add (.var 1) (.lst false [(.tup [(.con (.str "lack")), (.con .non), (.con (.str "give")), (.con .non), (.fn "_law_pick" [(.var 0), (.lst false [(.con (.str "tell")), (.con .non)])]), (.cmp .eq (.fn "_law_draw" [(.var 0), (.con (.int 2))]) (.con (.int 0)))]), (.tup [(.con .non), (.con .non), (.con (.str "tell")), (.con (.str "b")), (.fn "_law_pick" [(.var 0), (.lst false [(.con .non), (.con .non), (.con (.str "tell"))])]), (.con (.bl true))])])),
  .ret (.dic ["moods", "words", "rules"] [(.lst false [(.con (.str "a")), (.con (.str "b"))]), (.lst false [(.con (.str "tell"))]), (.var 1)])]⟩
def d__law_pull : FnDf := ⟨"_law_pull", 1, 2, [
  .set 1 (.lst false [(.tup [(.con (.str "lack")), (.con .non), (.con (.str "beat")), (.con .non), (.con (.str "want")), (.con (.bl true))]), (.tup [(.con (.str "have")), (.con .non), (.con (.str "want")), (.fn "_law_pick" [(.var 0), (.lst false [(.con .non), (.con (.str "b"))])]), (.con (.str "give")), (.con (.bl true))])]),
  .set 1 (.bin .add (.var 1) (.fn "_law_pick" [(.var 0), (.lst false [(.lst false [(.tup [(.con (.str "have")), (.con (.str "a")), (.con (.str "beat")), (.con (.str "b")), (.con (.str "tell")), (.con (.bl true))])]), (.lst false [(.tup [(.con (.str "have")), (.con .non), (.con (.str "beat")), (.con .non), (.con (.str "tell")), (.con (.bl true))])]), (.lst false []), (.lst false [(.tup [(.con (.str "have")), (.con (.str "a")), (.con (.str "beat")), (.con .non), (.con (.str "tell")), (.con (.bl true))])])])])),
  .ret (.dic ["moods", "words", "rules"] [(.lst false [(.con (.str "a")), (.con (.str "b"))]), (.lst false [(.con (.str "tell")), (.con (.str "want"))]), (.var 1)])]⟩
def d__law_any : FnDf := ⟨"_law_any", 1, 8, [
  .par [2, 3, 4] [(.slT (.lst false [(.con (.str "a")), (.con (.str "b")), (.con (.str "c"))]) (.bin .add (.con (.int 1)) (.fn "_law_draw" [(.var 0), (.con (.int 3))]))), (.slT (.lst false [(.con (.str "tell")), (.con (.str "want"))]) (.fn "_law_draw" [(.var 0), (.con (.int 3))])), (.lst false [])],
  .for (.one 1) (.itR (.bin .add (.con (.int 2)) (.fn "_law_draw" [(.var 0), (.con (.int 6))]))) [
    .par [6, 7] [(.fn "_law_pick" [(.var 0), (.lst false [(.con (.str "lack")), (.con (.str "have")), (.con (.str "have")), (.con (.str "aside")), (.con .non)])]), (.fn "_law_pick" [(.var 0), (.bin .add (.var 2) (.lst false [(.con .non), (.con .non)]))])],
    .set 5 (.fn "_law_pick" [(.var 0), (.bin .add (.var 3) (.lst false [(.con (.str "give")), (.con (.str "give")), (.con .non)]))]),
    .exp (.bm .append (.var 4) [(.tup [(.var 6), (.var 7), (.fn "_law_pick" [(.var 0), (.bin .add (.lst false [(.con (.str "beat")), (.con (.str "beat")), (.con (.str "give"))]) (.var 3))]), (.fn "_law_pick" [(.var 0), (.bin .add (.var 2) (.lst false [(.con .non)]))]), (.var 5), (.cmp .gt (.fn "_law_draw" [(.var 0), (.con (.int 3))]) (.con (.int 0)))])])],
  .ret (.dic ["moods", "words", "rules"] [(.var 2), (.var 3), (.var 4)])]⟩
def d__law_bent : FnDf := ⟨"_law_bent", 2, 11, [
  .set 2 (.blt .list [(.ix (.var 1) (.con (.str "rules")))]),
  .ife (.cmp .ne (.var 2) (.lst false [])) [
    .set 3 (.fn "_law_draw" [(.var 0), (.blt .len [(.var 2)])]),
    .unp [5, 6, 7, 8, 9, 10] (.ix (.var 2) (.var 3)),
    .set 4 (.lst false [(.tup [(.con .non), (.var 6), (.var 7), (.var 8), (.var 9), (.var 10)]), (.tup [(.var 5), (.con .non), (.var 7), (.var 8), (.var 9), (.var 10)]), (.tup [(.var 5), (.var 6), (.var 7), (.fn "_law_pick" [(.var 0), (.bin .add (.ix (.var 1) (.con (.str "moods"))) (.lst false [(.con .non)]))]), (.var 9), (.var 10)])]),
    .set 4 (.bin .add (.var 4) (.lst false [(.tup [(.var 5), (.var 6), (.var 7), (.var 8), (.fn "_law_pick" [(.var 0), (.bin .add (.ix (.var 1) (.con (.str "words"))) (.lst false [(.con (.str "give")), (.con .non)]))]), (.var 10)]), (.tup [(.var 5), (.var 6), (.var 7), (.var 8), (.var 9), (.not (.var 10))])])),
    .setSl (.var 2) (.var 3) (.bin .add (.var 3) (.con (.int 1))) (.ite (.cmp .gt (.fn "_law_draw" [(.var 0), (.con (.int 4))]) (.con (.int 0))) (.lst false [(.fn "_law_pick" [(.var 0), (.var 4)])]) (.lst false []))] [],
  .ret (.dic ["moods", "words", "rules"] [(.ix (.var 1) (.con (.str "moods"))), (.ix (.var 1) (.con (.str "words"))), (.var 2)])]⟩
def d__law_talk : FnDf := ⟨"_law_talk", 1, 2, [
  .set 1 (.app (.fn "_law_pick" [(.var 0), (.lst false [(.con (.glo "_law_asking")), (.con (.glo "_law_sure")), (.con (.glo "_law_pull")), (.con (.glo "_law_any"))])]) [(.var 0)]),
  .ret (.ite (.cmp .eq (.fn "_law_draw" [(.var 0), (.con (.int 3))]) (.con (.int 0))) (.fn "_law_bent" [(.var 0), (.var 1)]) (.var 1))]⟩
def d__law_rule : FnDf := ⟨"_law_rule", 4, 5, [
  .for (.one 4) (.itE (.ix (.var 0) (.con (.str "rules")))) [
    .ife (.and (.cmp .eq (.ix (.var 4) (.con (.int 2))) (.var 3)) (.and (.cmp .isIn (.ix (.var 4) (.con (.int 0))) (.tup [(.con .non), (.var 1)])) (.cmp .isIn (.ix (.var 4) (.con (.int 1))) (.tup [(.con .non), (.var 2)])))) [
      .ret (.tup [(.ite (.cmp .is (.ix (.var 4) (.con (.int 3))) (.con .non)) (.var 2) (.ix (.var 4) (.con (.int 3)))), (.ix (.var 4) (.con (.int 4))), (.ix (.var 4) (.con (.int 5)))])] []],
  .ret (.tup [(.var 2), (.con .non), (.con (.bl true))])]⟩
def d__law_otherwise : FnDf := ⟨"_law_otherwise", 2, 7, [
  .unp [2, 3] (.tup [(.blt .list [(.ix (.var 1) (.con (.str "rules")))]), (.fn "_law_draw" [(.var 0), (.con (.int 5))])]),
  .ife (.and (.cmp .eq (.var 3) (.con (.int 0))) (.cmp .ne (.var 2) (.lst false []))) [
    .set 4 (.fn "_law_draw" [(.var 0), (.blt .len [(.var 2)])]),
    .exp (.bm .insert (.var 2) [(.bin .add (.bin .add (.var 4) (.con (.int 1))) (.fn "_law_draw" [(.var 0), (.bin .sub (.blt .len [(.var 2)]) (.var 4))])), (.bin .add (.slT (.ix (.var 2) (.var 4)) (.con (.int 3))) (.tup [(.con .non), (.con (.str "give")), (.con (.bl false))]))])] [],
  .ife (.cmp .eq (.var 3) (.con (.int 1))) [
    .exp (.bm .append (.var 2) [(.tup [(.con (.str "lack")), (.con .non), (.con (.str "beat")), (.con .non), (.con (.str "give")), (.con (.bl true))])])] [],
  .ife (.cmp .eq (.var 3) (.con (.int 2))) [
    .set 2 (.lcm false (.one 5) [5] (.itE (.var 2)) (.con (.bl true)) (.emit (.ite (.cmp .eq (.var 5) (.ix (.var 2) (.con (.int 0)))) (.tup [(.con (.str "have")), (.con .non), (.con (.str "give")), (.con .non), (.con .non), (.con (.bl false))]) (.var 5))))] [],
  .ife (.cmp .eq (.var 3) (.con (.int 3))) [
    .set 2 (.bin .add (.var 2) (.lcm false (.one 6) [6] (.itE (.tup [(.con (.str "aside")), (.con (.str "have")), (.con (.str "lack"))])) (.con (.bl true)) (.emit (.tup [(.var 6), (.con .non), (.con (.str "give")), (.con .non), (.con .non), (.cmp .eq (.fn "_law_draw" [(.var 0), (.con (.int 2))]) (.con (.int 0)))]))))] [],
  .ret (.ite (.cmp .eq (.var 3) (.con (.int 4))) (.fn "_law_bent" [(.var 0), (.var 1)]) (.dic ["moods", "words", "rules"] [(.ix (.var 1) (.con (.str "moods"))), (.ix (.var 1) (.con (.str "words"))), (.var 2)]))]⟩
def d__law_cases : FnDf := ⟨"_law_cases", 1, 5, [
  .set 1 (.lst false []),
  .for (.one 2) (.itE (.tup [(.con (.str "lack")), (.con (.str "aside")), (.con (.str "have"))])) [
    .for (.one 3) (.itE (.ix (.var 0) (.con (.str "moods")))) [
      .set 1 (.bin .add (.var 1) (.lcm false (.one 4) [4] (.itE (.bin .add (.lst false [(.con (.str "beat")), (.con (.str "give"))]) (.blt .list [(.ix (.var 0) (.con (.str "words")))]))) (.con (.bl true)) (.emit (.tup [(.var 2), (.var 3), (.var 4)]))))]],
  .ret (.var 1)]⟩
def d__law_does : FnDf := ⟨"_law_does", 2, 7, [
  .unp [2, 3, 4] (.fn "_law_rule" [(.var 0), (.ix (.var 1) (.con (.int 0))), (.ix (.var 1) (.con (.int 1))), (.ix (.var 1) (.con (.int 2)))]),
  .par [5, 6] [(.cmp .eq (.ix (.var 1) (.con (.int 0))) (.con (.str "lack"))), (.cmp .eq (.ix (.var 1) (.con (.int 2))) (.con (.str "give")))],
  .ret (.tup [(.var 2), (.ite (.and (.cmp .eq (.var 3) (.con (.str "give"))) (.and (.var 5) (.not (.var 6)))) (.con .non) (.var 3)), (.or (.var 4) (.or (.not (.var 5)) (.not (.var 6))))])]⟩
def d_law : FnDf := ⟨"law", 1, 19, [
  .set 1 (.fn "_law_pen" [(.var 0)]),
  .for (.one 2) (.itR (.con (.int 10))) [
    .set 6 (.fn "_law_talk" [(.var 1)]),
    .set 7 (.fn "_law_otherwise" [(.var 1), (.var 6)]),
    .par [14, 15] [(.fn "_law_made" [(.var 6)]), (.fn "_law_made" [(.var 7)])],
    .set 8 (.blt .tuple [(.lcm true (.one 17) [17] (.itE (.fn "_law_cases" [(.var 6)])) (.cmp .ne (.fn "_law_does" [(.var 6), (.var 17)]) (.fn "_law_does" [(.var 7), (.var 17)])) (.emit (.var 17)))]),
    .ife (.or (.cmp .ne (.blt .repr [(.lst true [(.fn "apart" [(.var 14), (.var 15)]), (.fnK "apart" [1, 0] 2 [(.var 15), (.var 14)])])]) (.blt .repr [(.lst true [(.var 8), (.var 8)])])) (.cmp .ne (.blt .repr [(.lst true [(.fn "are_alike" [(.var 14), (.var 15)]), (.fnK "are_alike" [1, 0] 2 [(.var 14), (.var 15)])])]) (.blt .repr [(.bin .mul (.lst false [(.cmp .eq (.var 8) (.tup []))]) (.con (.int 2)))]))) [
      .ret (.con (.bl false))] [],
    .set 9 (.fn "plain_talk" [(.var 14)]),
    .ife (.or (.not (.fn "are_alike" [(.var 9), (.var 14)])) (.or (.cmp .ne (.var 9) (.fn "plain_talk" [(.var 9)])) (.or (.cmp .ne (.fn "apart" [(.var 9), (.var 14)]) (.tup [])) (.or (.cmp .ne (.cmp .eq (.fn "talk_number" [(.var 14)]) (.fn "talk_number" [(.var 15)])) (.cmp .eq (.var 8) (.tup []))) (.cmp .ne (.cmp .eq (.var 9) (.fn "plain_talk" [(.var 15)])) (.cmp .eq (.var 8) (.tup []))))))) [
      .ret (.con (.bl false))] []],
  .unp [10, 11] (.fn "_law_pick" [(.var 1), (.lst false [(.tup [(.lst false [(.con (.str "m"))]), (.lst false [])]), (.tup [(.lst false [(.con (.str "m"))]), (.lst false [])]), (.tup [(.lst false [(.con (.str "x"))]), (.lst false [(.con (.str "w"))])])])]),
  .set 3 (.fn "how_many" [(.var 10), (.var 11)]),
  .set 4 (.fn "_law_draw" [(.var 1), (.blt .max [(.con (.int 1)), (.bin .sub (.var 3) (.con (.int 64)))])]),
  .set 5 (.lcm false (.one 16) [16] (.itR2 (.var 4) (.bin .add (.var 4) (.con (.int 64)))) (.con (.bl true)) (.emit (.fn "talk_by" [(.var 10), (.var 11), (.var 16)]))),
  .par [12, 13] [(.fn "_law_draw" [(.var 1), (.con (.int 64))]), (.fn "_law_draw" [(.var 1), (.con (.int 64))])],
  .ife (.or (.cmp .ne (.lcm false (.one 18) [18] (.itE (.var 5)) (.con (.bl true)) (.emit (.fn "talk_number" [(.var 18)]))) (.lrg (.var 4) (.bin .add (.var 4) (.con (.int 64))))) (.cmp .ne (.fn "are_alike" [(.ix (.var 5) (.var 12)), (.ix (.var 5) (.var 13))]) (.cmp .eq (.var 12) (.var 13)))) [
    .ret (.con (.bl false))] [],
  .ret (.and (.cmp .eq (.lns (.lcm true (.one 18) [18] (.itE (.var 5)) (.con (.bl true)) (.emit (.blt .repr [(.fld (.var 18) "rules")])))) (.con (.int 64))) (.cmp .eq (.cmp .eq (.fn "apart" [(.ix (.var 5) (.var 12)), (.ix (.var 5) (.var 13))]) (.tup [])) (.cmp .eq (.var 12) (.var 13))))]⟩
def d_Talk___init__ : FnDf := ⟨"Talk.__init__", 4, 8, [
  .ife (.or (.not (.fn "is_listed" [(.var 1)])) (.or (.not (.chn .le .le (.con (.int 1)) (.blt .len [(.var 1)]) (.con (.int 5)))) (.not (.blt .all [(.lcm true (.one 7) [7] (.itE (.var 1)) (.con (.bl true)) (.emit (.fn "is_name" [(.var 7)])))])))) [
    .bad] [],
  .ife (.cmp .lt (.blt .len [(.dc (.one 6) [6] (.itE (.var 1)) (.con (.bl true)) (.var 6) (.con (.bl true)))]) (.blt .len [(.var 1)])) [
    .bad] [],
  .ife (.or (.not (.fn "is_listed" [(.var 2)])) (.or (.cmp .gt (.blt .len [(.var 2)]) (.con (.int 4))) (.not (.blt .all [(.lcm true (.one 7) [7] (.itE (.var 2)) (.con (.bl true)) (.emit (.fn "is_name" [(.var 7)])))])))) [
    .bad] [],
  .ife (.or (.not (.fn "ascends" [(.var 2)])) (.or (.cmp .isIn (.con (.str "give")) (.var 2)) (.cmp .isIn (.con (.str "beat")) (.var 2)))) [
    .bad] [],
  .ife (.or (.not (.fn "is_listed" [(.var 3)])) (.cmp .gt (.blt .len [(.var 3)]) (.con (.int 90)))) [
    .bad] [],
  .for (.many [4, 5]) (.itN (.var 3)) [
    .ife (.not (.fn "is_rule" [(.var 5), (.var 1), (.var 2)])) [
      .bad] []],
  .setF (.var 0) "moods" (.fn "copied" [(.var 1)]),
  .setF (.var 0) "words" (.fn "copied" [(.var 2)]),
  .setF (.var 0) "rules" (.fn "copied" [(.var 3)])]⟩
def d_Talk_rule_at : FnDf := ⟨"Talk.rule_at", 4, 6, [
  .for (.many [4, 5]) (.itN (.fld (.var 0) "rules")) [
    .ife (.and (.cmp .eq (.ix (.var 5) (.con (.int 2))) (.var 3)) (.and (.cmp .isIn (.ix (.var 5) (.con (.int 0))) (.tup [(.con .non), (.var 1)])) (.cmp .isIn (.ix (.var 5) (.con (.int 1))) (.tup [(.con .non), (.var 2)])))) [
      .ret (.var 4)] []],
  .ret (.con .non)]⟩
def d_Talk_answer : FnDf := ⟨"Talk.answer", 4, 9, [
  .set 4 (.met "rule_at" (.var 0) [(.var 1), (.var 2), (.var 3)]),
  .ife (.cmp .is (.var 4) (.con .non)) [
    .ret (.tup [(.var 2), (.con .non), (.con (.bl true))])] [],
  .unp [5, 5, 5, 6, 7, 8] (.ix (.fld (.var 0) "rules") (.var 4)),
  .ret (.tup [(.ite (.cmp .is (.var 6) (.con .non)) (.var 2) (.var 6)), (.var 7), (.var 8)])]⟩
def d_Talk_hears : FnDf := ⟨"Talk.hears", 2, 2, [
  .exp (.fn "_wall" [(.con (.int 0))])]⟩
def d_Talk___eq__ : FnDf := ⟨"Talk.__eq__", 2, 2, [
  .ife (.not (.isi (.var 1) ["Talk"])) [
    .ret (.con (.bl false))] [],
  .ret (.blt .bool [(.cmp .eq (.tup [(.fld (.var 0) "moods"), (.fld (.var 0) "words"), (.fld (.var 0) "rules")]) (.tup [(.fld (.var 1) "moods"), (.fld (.var 1) "words"), (.fld (.var 1) "rules")]))])]⟩
def P : Pg := ⟨([d__wall,
   d_is_integer,
   d_is_between,
   d_is_name,
   d_is_listed,
   d_ascends,
   d_copied,
   d_is_rule,
   d_need_talk,
   d_all_cases,
   d_says_in,
   d_is_dropping,
   d_places_in,
   d_place_of,
   d_number_in] : List FnDf) ++
  ([d_many_in,
   d_rule_by,
   d_plain_by,
   d_how_many,
   d_talk_number,
   d_talk_by,
   d_plain_talk,
   d_are_kin,
   d_are_alike,
   d_apart,
   d__law_pen,
   d__law_draw,
   d__law_pick,
   d__law_mixed,
   d__law_made] : List FnDf) ++
  ([d__law_asking,
   d__law_sure,
   d__law_pull,
   d__law_any,
   d__law_bent,
   d__law_talk,
   d__law_rule,
   d__law_otherwise,
   d__law_cases,
   d__law_does,
   d_law,
   d_Talk___init__,
   d_Talk_rule_at,
   d_Talk_answer,
   d_Talk_hears] : List FnDf) ++
  ([d_Talk___eq__] : List FnDf),
  [("Talk", ["Talk"])],
  [("Talk", "__init__", "Talk.__init__"), ("Talk", "rule_at", "Talk.rule_at"), ("Talk", "answer", "Talk.answer"), ("Talk", "hears", "Talk.hears"), ("Talk", "__eq__", "Talk.__eq__")],
  [],
  [("Talk", ["moods", "words", "rules"])],
  ["Talk"],
  ["_law_any", "_law_asking", "_law_pull", "_law_sure"]⟩
def t__wall : DTx := ⟨"_wall", "_wall", "_wall", defArgs (topS 0), defBody (topS 0), defScope (topS 0), ["k"], ["k"]⟩
def t_is_integer : DTx := ⟨"is_integer", "is_integer", "is_integer", defArgs (topS 4), defBody (topS 4), defScope (topS 4), ["value"], ["value"]⟩
def t_is_between : DTx := ⟨"is_between", "is_between", "is_between", defArgs (topS 5), defBody (topS 5), defScope (topS 5), ["value", "least", "most"], ["value", "least", "most"]⟩
def t_is_name : DTx := ⟨"is_name", "is_name", "is_name", defArgs (topS 6), defBody (topS 6), defScope (topS 6), ["value", "sign"], ["value"]⟩
def t_is_listed : DTx := ⟨"is_listed", "is_listed", "is_listed", defArgs (topS 7), defBody (topS 7), defScope (topS 7), ["value"], ["value"]⟩
def t_ascends : DTx := ⟨"ascends", "ascends", "ascends", defArgs (topS 8), defBody (topS 8), defScope (topS 8), ["some", "one", "other"], ["some"]⟩
def t_copied : DTx := ⟨"copied", "copied", "copied", defArgs (topS 18), defBody (topS 18), defScope (topS 18), ["value", "one", "key"], ["value"]⟩
def t_is_rule : DTx := ⟨"is_rule", "is_rule", "is_rule", defArgs (topS 30), defBody (topS 30), defScope (topS 30), ["value", "moods", "words", "one"], ["value", "moods", "words"]⟩
def t_need_talk : DTx := ⟨"need_talk", "need_talk", "need_talk", defArgs (topS 32), defBody (topS 32), defScope (topS 32), ["value", "part"], ["value", "part"]⟩
def t_all_cases : DTx := ⟨"all_cases", "all_cases", "all_cases", defArgs (topS 33), defBody (topS 33), defScope (topS 33), ["talk", "events", "status", "mood", "event"], ["talk"]⟩
def t_says_in : DTx := ⟨"says_in", "says_in", "says_in", defArgs (topS 35), defBody (topS 35), defScope (topS 35), ["case", "words", "status", "_", "event"], ["case", "words"]⟩
def t_is_dropping : DTx := ⟨"is_dropping", "is_dropping", "is_dropping", defArgs (topS 36), defBody (topS 36), defScope (topS 36), ["case"], ["case"]⟩
def t_places_in : DTx := ⟨"places_in", "places_in", "places_in", defArgs (topS 37), defBody (topS 37), defScope (topS 37), ["talk", "case"], ["talk", "case"]⟩
def t_place_of : DTx := ⟨"place_of", "place_of", "place_of", defArgs (topS 38), defBody (topS 38), defScope (topS 38), ["talk", "case", "says", "told", "later", "say", "is_held"], ["talk", "case"]⟩
def t_number_in : DTx := ⟨"number_in", "number_in", "number_in", defArgs (topS 39), defBody (topS 39), defScope (topS 39), ["talk", "case", "found", "weight"], ["talk"]⟩
def t_many_in : DTx := ⟨"many_in", "many_in", "many_in", defArgs (topS 40), defBody (topS 40), defScope (topS 40), ["talk", "found", "case"], ["talk"]⟩
def t_rule_by : DTx := ⟨"rule_by", "rule_by", "rule_by", defArgs (topS 41), defBody (topS 41), defScope (topS 41), ["talk", "case", "place", "told", "status", "mood", "event", "says", "later", "say", "is_held"], ["talk", "case", "place"]⟩
def t_plain_by : DTx := ⟨"plain_by", "plain_by", "plain_by", defArgs (topS 42), defBody (topS 42), defScope (topS 42), ["bare", "number", "rules", "case", "many", "rule"], ["bare", "number"]⟩
def t_how_many : DTx := ⟨"how_many", "how_many", "how_many", defArgs (topS 43), defBody (topS 43), defScope (topS 43), ["moods", "words"], ["moods", "words"]⟩
def t_talk_number : DTx := ⟨"talk_number", "talk_number", "talk_number", defArgs (topS 44), defBody (topS 44), defScope (topS 44), ["talk"], ["talk"]⟩
def t_talk_by : DTx := ⟨"talk_by", "talk_by", "talk_by", defArgs (topS 45), defBody (topS 45), defScope (topS 45), ["moods", "words", "number", "bare"], ["moods", "words", "number"]⟩
def t_plain_talk : DTx := ⟨"plain_talk", "plain_talk", "plain_talk", defArgs (topS 46), defBody (topS 46), defScope (topS 46), ["talk"], ["talk"]⟩
def t_are_kin : DTx := ⟨"are_kin", "are_kin", "are_kin", defArgs (topS 47), defBody (topS 47), defScope (topS 47), ["one", "other"], ["one", "other"]⟩
def t_are_alike : DTx := ⟨"are_alike", "are_alike", "are_alike", defArgs (topS 48), defBody (topS 48), defScope (topS 48), ["one", "other"], ["one", "other"]⟩
def t_apart : DTx := ⟨"apart", "apart", "apart", defArgs (topS 49), defBody (topS 49), defScope (topS 49), ["one", "other", "case"], ["one", "other"]⟩
def t__law_pen : DTx := ⟨"_law_pen", "_law_pen", "_law_pen", defArgs (topS 51), defBody (topS 51), defScope (topS 51), ["script", "seed", "cell"], ["script"]⟩
def t__law_draw : DTx := ⟨"_law_draw", "_law_draw", "_law_draw", defArgs (topS 52), defBody (topS 52), defScope (topS 52), ["pen", "many"], ["pen", "many"]⟩
def t__law_pick : DTx := ⟨"_law_pick", "_law_pick", "_law_pick", defArgs (topS 53), defBody (topS 53), defScope (topS 53), ["pen", "some"], ["pen", "some"]⟩
def t__law_mixed : DTx := ⟨"_law_mixed", "_law_mixed", "_law_mixed", defArgs (topS 54), defBody (topS 54), defScope (topS 54), ["pen", "some", "left", "found"], ["pen", "some"]⟩
def t__law_made : DTx := ⟨"_law_made", "_law_made", "_law_made", defArgs (topS 55), defBody (topS 55), defScope (topS 55), ["plain"], ["plain"]⟩
def t__law_asking : DTx := ⟨"_law_asking", "_law_asking", "_law_asking", defArgs (topS 56), defBody (topS 56), defScope (topS 56), ["pen", "rules"], ["pen"]⟩
def t__law_sure : DTx := ⟨"_law_sure", "_law_sure", "_law_sure", defArgs (topS 57), defBody (topS 57), defScope (topS 57), ["pen", "rules"], ["pen"]⟩
def t__law_pull : DTx := ⟨"_law_pull", "_law_pull", "_law_pull", defArgs (topS 58), defBody (topS 58), defScope (topS 58), ["pen", "rules"], ["pen"]⟩
def t__law_any : DTx := ⟨"_law_any", "_law_any", "_law_any", defArgs (topS 59), defBody (topS 59), defScope (topS 59), ["pen", "turn", "moods", "words", "rules", "say", "status", "mood"], ["pen"]⟩
def t__law_bent : DTx := ⟨"_law_bent", "_law_bent", "_law_bent", defArgs (topS 60), defBody (topS 60), defScope (topS 60), ["pen", "plain", "rules", "at", "some", "status", "mood", "event", "later", "say", "hold"], ["pen", "plain"]⟩
def t__law_talk : DTx := ⟨"_law_talk", "_law_talk", "_law_talk", defArgs (topS 61), defBody (topS 61), defScope (topS 61), ["pen", "plain"], ["pen"]⟩
def t__law_rule : DTx := ⟨"_law_rule", "_law_rule", "_law_rule", defArgs (topS 62), defBody (topS 62), defScope (topS 62), ["plain", "status", "mood", "event", "told"], ["plain", "status", "mood", "event"]⟩
def t__law_otherwise : DTx := ⟨"_law_otherwise", "_law_otherwise", "_law_otherwise", defArgs (topS 63), defBody (topS 63), defScope (topS 63), ["pen", "plain", "rules", "way", "at", "one", "status"], ["pen", "plain"]⟩
def t__law_cases : DTx := ⟨"_law_cases", "_law_cases", "_law_cases", defArgs (topS 64), defBody (topS 64), defScope (topS 64), ["plain", "found", "status", "mood", "event"], ["plain"]⟩
def t__law_does : DTx := ⟨"_law_does", "_law_does", "_law_does", defArgs (topS 65), defBody (topS 65), defScope (topS 65), ["plain", "case", "later", "say", "hold", "is_lacking", "is_given"], ["plain", "case"]⟩
def t_law : DTx := ⟨"law", "law", "law", defArgs (topS 66), defBody (topS 66), defScope (topS 66), ["script", "pen", "turn", "many", "start", "some", "mine", "other", "due", "told", "moods", "words", "at", "spot", "one", "its", "number", "case", "talk"], ["script"]⟩
def t_Talk___init__ : DTx := ⟨"Talk.__init__", "__init__", "Talk.__init__", defArgs (inS (topS 31) 0), defBody (inS (topS 31) 0), defScope (inS (topS 31) 0), ["self", "moods", "words", "rules", "at", "rule", "mood", "one"], ["self", "moods", "words", "rules"]⟩
def t_Talk_rule_at : DTx := ⟨"Talk.rule_at", "rule_at", "Talk.rule_at", defArgs (inS (topS 31) 1), defBody (inS (topS 31) 1), defScope (inS (topS 31) 1), ["self", "status", "mood", "event", "at", "rule"], ["self", "status", "mood", "event"]⟩
def t_Talk_answer : DTx := ⟨"Talk.answer", "answer", "Talk.answer", defArgs (inS (topS 31) 2), defBody (inS (topS 31) 2), defScope (inS (topS 31) 2), ["self", "status", "mood", "event", "at", "_", "later", "say", "hold"], ["self", "status", "mood", "event"]⟩
def t_Talk_hears : DTx := ⟨"Talk.hears", "hears", "Talk.hears", defArgs (inS (topS 31) 3), defBody (inS (topS 31) 3), defScope (inS (topS 31) 3), ["self", "word"], ["self", "word"]⟩
def t_Talk___eq__ : DTx := ⟨"Talk.__eq__", "__eq__", "Talk.__eq__", defArgs (inS (topS 31) 4), defBody (inS (topS 31) 4), defScope (inS (topS 31) 4), ["self", "other"], ["self", "other"]⟩
def g0 : List (Str × Gk) := ([("LETTERS", .con (.str "abcdefghijklmnopqrstuvwxyz")),
   ("MOST_SIGNS", .con (.int 8)),
   ("LACK", .con (.str "lack")),
   ("ASIDE", .con (.str "aside")),
   ("HAVE", .con (.str "have")),
   ("STATUSES", .con (.tup [(.str "lack"), (.str "aside"), (.str "have")])),
   ("BEAT", .con (.str "beat")),
   ("GIVE", .con (.str "give")),
   ("MOST_MOODS", .con (.int 5)),
   ("MOST_WORDS", .con (.int 4)),
   ("MOST_RULES", .con (.int 90)),
   ("PARTS", .con (.int 6)),
   ("_wall", .fn ["k"]),
   ("is_integer", .fn ["value"]),
   ("is_between", .fn ["value", "least", "most"])] : List (Str × Gk)) ++
  ([("is_name", .fn ["value"]),
   ("is_listed", .fn ["value"]),
   ("ascends", .fn ["some"]),
   ("copied", .fn ["value"]),
   ("is_rule", .fn ["value", "moods", "words"]),
   ("need_talk", .fn ["value", "part"]),
   ("all_cases", .fn ["talk"]),
   ("says_in", .fn ["case", "words"]),
   ("is_dropping", .fn ["case"]),
   ("places_in", .fn ["talk", "case"]),
   ("place_of", .fn ["talk", "case"]),
   ("number_in", .fn ["talk"]),
   ("many_in", .fn ["talk"]),
   ("rule_by", .fn ["talk", "case", "place"]),
   ("plain_by", .fn ["bare", "number"])] : List (Str × Gk)) ++
  ([("how_many", .fn ["moods", "words"]),
   ("talk_number", .fn ["talk"]),
   ("talk_by", .fn ["moods", "words", "number"]),
   ("plain_talk", .fn ["talk"]),
   ("are_kin", .fn ["one", "other"]),
   ("are_alike", .fn ["one", "other"]),
   ("apart", .fn ["one", "other"]),
   ("_law_pen", .fn ["script"]),
   ("_law_draw", .fn ["pen", "many"]),
   ("_law_pick", .fn ["pen", "some"]),
   ("_law_mixed", .fn ["pen", "some"]),
   ("_law_made", .fn ["plain"]),
   ("_law_asking", .fn ["pen"]),
   ("_law_sure", .fn ["pen"]),
   ("_law_pull", .fn ["pen"])] : List (Str × Gk)) ++
  ([("_law_any", .fn ["pen"]),
   ("_law_bent", .fn ["pen", "plain"]),
   ("_law_talk", .fn ["pen"]),
   ("_law_rule", .fn ["plain", "status", "mood", "event"]),
   ("_law_otherwise", .fn ["pen", "plain"]),
   ("_law_cases", .fn ["plain"]),
   ("_law_does", .fn ["plain", "case"]),
   ("law", .fn ["script"]),
   ("Talk", .cls),
   ("all", .free),
   ("bool", .free),
   ("dict", .free),
   ("enumerate", .free),
   ("int", .free),
   ("isinstance", .free)] : List (Str × Gk)) ++
  ([("len", .free),
   ("list", .free),
   ("max", .free),
   ("range", .free),
   ("repr", .free),
   ("set", .free),
   ("str", .free),
   ("tuple", .free),
   ("zip", .free)] : List (Str × Gk))
def I : HI := ⟨P, g0, ["__eq__", "__init__", "answer", "hears", "rule_at"], [("apart", ["other", "one"], [1, 0]), ("are_alike", ["other", "one"], [1, 0])],
  ([⟨d__wall, t__wall, ("_wall", none)⟩,
   ⟨d_is_integer, t_is_integer, ("is_integer", none)⟩,
   ⟨d_is_between, t_is_between, ("is_between", none)⟩,
   ⟨d_is_name, t_is_name, ("is_name", none)⟩,
   ⟨d_is_listed, t_is_listed, ("is_listed", none)⟩,
   ⟨d_ascends, t_ascends, ("ascends", none)⟩,
   ⟨d_copied, t_copied, ("copied", none)⟩,
   ⟨d_is_rule, t_is_rule, ("is_rule", none)⟩,
   ⟨d_need_talk, t_need_talk, ("need_talk", none)⟩,
   ⟨d_all_cases, t_all_cases, ("all_cases", none)⟩,
   ⟨d_says_in, t_says_in, ("says_in", none)⟩,
   ⟨d_is_dropping, t_is_dropping, ("is_dropping", none)⟩,
   ⟨d_places_in, t_places_in, ("places_in", none)⟩,
   ⟨d_place_of, t_place_of, ("place_of", none)⟩,
   ⟨d_number_in, t_number_in, ("number_in", none)⟩] : List HDef) ++
  ([⟨d_many_in, t_many_in, ("many_in", none)⟩,
   ⟨d_rule_by, t_rule_by, ("rule_by", none)⟩,
   ⟨d_plain_by, t_plain_by, ("plain_by", none)⟩,
   ⟨d_how_many, t_how_many, ("how_many", none)⟩,
   ⟨d_talk_number, t_talk_number, ("talk_number", none)⟩,
   ⟨d_talk_by, t_talk_by, ("talk_by", none)⟩,
   ⟨d_plain_talk, t_plain_talk, ("plain_talk", none)⟩,
   ⟨d_are_kin, t_are_kin, ("are_kin", none)⟩,
   ⟨d_are_alike, t_are_alike, ("are_alike", none)⟩,
   ⟨d_apart, t_apart, ("apart", none)⟩,
   ⟨d__law_pen, t__law_pen, ("_law_pen", none)⟩,
   ⟨d__law_draw, t__law_draw, ("_law_draw", none)⟩,
   ⟨d__law_pick, t__law_pick, ("_law_pick", none)⟩,
   ⟨d__law_mixed, t__law_mixed, ("_law_mixed", none)⟩,
   ⟨d__law_made, t__law_made, ("_law_made", none)⟩] : List HDef) ++
  ([⟨d__law_asking, t__law_asking, ("_law_asking", none)⟩,
   ⟨d__law_sure, t__law_sure, ("_law_sure", none)⟩,
   ⟨d__law_pull, t__law_pull, ("_law_pull", none)⟩,
   ⟨d__law_any, t__law_any, ("_law_any", none)⟩,
   ⟨d__law_bent, t__law_bent, ("_law_bent", none)⟩,
   ⟨d__law_talk, t__law_talk, ("_law_talk", none)⟩,
   ⟨d__law_rule, t__law_rule, ("_law_rule", none)⟩,
   ⟨d__law_otherwise, t__law_otherwise, ("_law_otherwise", none)⟩,
   ⟨d__law_cases, t__law_cases, ("_law_cases", none)⟩,
   ⟨d__law_does, t__law_does, ("_law_does", none)⟩,
   ⟨d_law, t_law, ("law", none)⟩,
   ⟨d_Talk___init__, t_Talk___init__, ("Talk", some "__init__")⟩,
   ⟨d_Talk_rule_at, t_Talk_rule_at, ("Talk", some "rule_at")⟩,
   ⟨d_Talk_answer, t_Talk_answer, ("Talk", some "answer")⟩,
   ⟨d_Talk_hears, t_Talk_hears, ("Talk", some "hears")⟩] : List HDef) ++
  ([⟨d_Talk___eq__, t_Talk___eq__, ("Talk", some "__eq__")⟩] : List HDef)⟩
end K89
end

section
set_option Elab.async false
set_option linter.all false
set_option maxRecDepth 100000
set_option maxHeartbeats 0
/-! What the head asks of the text of law k89. Printed by lawgen.py. -/
namespace K89
open PySem L2 R
theorem x__wall : TxOk I.cp ⟨d__wall, t__wall, ("_wall", none)⟩ := ⟨by decide +kernel, by kernel_rfl, by rfl, by rfl, fun _ _ _ _ _ _ us hl => match us, hl with | [_], _ => by rfl⟩
theorem x_is_integer : TxOk I.cp ⟨d_is_integer, t_is_integer, ("is_integer", none)⟩ := ⟨by decide +kernel, by kernel_rfl, by rfl, by rfl, fun _ _ _ _ _ _ us hl => match us, hl with | [_], _ => by rfl⟩
theorem x_is_between : TxOk I.cp ⟨d_is_between, t_is_between, ("is_between", none)⟩ := ⟨by decide +kernel, by kernel_rfl, by rfl, by rfl, fun _ _ _ _ _ _ us hl => match us, hl with | [_, _, _], _ => by rfl⟩
theorem x_is_name : TxOk I.cp ⟨d_is_name, t_is_name, ("is_name", none)⟩ := ⟨by decide +kernel, by kernel_rfl, by rfl, by rfl, fun _ _ _ _ _ _ us hl => match us, hl with | [_], _ => by rfl⟩
theorem x_is_listed : TxOk I.cp ⟨d_is_listed, t_is_listed, ("is_listed", none)⟩ := ⟨by decide +kernel, by kernel_rfl, by rfl, by rfl, fun _ _ _ _ _ _ us hl => match us, hl with | [_], _ => by rfl⟩
theorem x_ascends : TxOk I.cp ⟨d_ascends, t_ascends, ("ascends", none)⟩ := ⟨by decide +kernel, by kernel_rfl, by rfl, by rfl, fun _ _ _ _ _ _ us hl => match us, hl with | [_], _ => by rfl⟩
theorem x_copied : TxOk I.cp ⟨d_copied, t_copied, ("copied", none)⟩ := ⟨by decide +kernel, by kernel_rfl, by rfl, by rfl, fun _ _ _ _ _ _ us hl => match us, hl with | [_], _ => by rfl⟩
theorem x_is_rule : TxOk I.cp ⟨d_is_rule, t_is_rule, ("is_rule", none)⟩ := ⟨by decide +kernel, by kernel_rfl, by rfl, by rfl, fun _ _ _ _ _ _ us hl => match us, hl with | [_, _, _], _ => by rfl⟩
theorem x_need_talk : TxOk I.cp ⟨d_need_talk, t_need_talk, ("need_talk", none)⟩ := ⟨by decide +kernel, by kernel_rfl, by rfl, by rfl, fun _ _ _ _ _ _ us hl => match us, hl with | [_, _], _ => by rfl⟩
theorem x_all_cases : TxOk I.cp ⟨d_all_cases, t_all_cases, ("all_cases", none)⟩ := ⟨by decide +kernel, by kernel_rfl, by rfl, by rfl, fun _ _ _ _ _ _ us hl => match us, hl with | [_], _ => by rfl⟩
theorem x_says_in : TxOk I.cp ⟨d_says_in, t_says_in, ("says_in", none)⟩ := ⟨by decide +kernel, by kernel_rfl, by rfl, by rfl, fun _ _ _ _ _ _ us hl => match us, hl with | [_, _], _ => by rfl⟩
theorem x_is_dropping : TxOk I.cp ⟨d_is_dropping, t_is_dropping, ("is_dropping", none)⟩ := ⟨by decide +kernel, by kernel_rfl, by rfl, by rfl, fun _ _ _ _ _ _ us hl => match us, hl with | [_], _ => by rfl⟩
theorem x_places_in : TxOk I.cp ⟨d_places_in, t_places_in, ("places_in", none)⟩ := ⟨by decide +kernel, by kernel_rfl, by rfl, by rfl, fun _ _ _ _ _ _ us hl => match us, hl with | [_, _], _ => by rfl⟩
theorem x_place_of : TxOk I.cp ⟨d_place_of, t_place_of, ("place_of", none)⟩ := ⟨by decide +kernel, by kernel_rfl, by rfl, by rfl, fun _ _ _ _ _ _ us hl => match us, hl with | [_, _], _ => by rfl⟩
theorem x_number_in : TxOk I.cp ⟨d_number_in, t_number_in, ("number_in", none)⟩ := ⟨by decide +kernel, by kernel_rfl, by rfl, by rfl, fun _ _ _ _ _ _ us hl => match us, hl with | [_], _ => by rfl⟩
theorem x_many_in : TxOk I.cp ⟨d_many_in, t_many_in, ("many_in", none)⟩ := ⟨by decide +kernel, by kernel_rfl, by rfl, by rfl, fun _ _ _ _ _ _ us hl => match us, hl with | [_], _ => by rfl⟩
theorem x_rule_by : TxOk I.cp ⟨d_rule_by, t_rule_by, ("rule_by", none)⟩ := ⟨by decide +kernel, by kernel_rfl, by rfl, by rfl, fun _ _ _ _ _ _ us hl => match us, hl with | [_, _, _], _ => by rfl⟩
theorem x_plain_by : TxOk I.cp ⟨d_plain_by, t_plain_by, ("plain_by", none)⟩ := ⟨by decide +kernel, by kernel_rfl, by rfl, by rfl, fun _ _ _ _ _ _ us hl => match us, hl with | [_, _], _ => by rfl⟩
theorem x_how_many : TxOk I.cp ⟨d_how_many, t_how_many, ("how_many", none)⟩ := ⟨by decide +kernel, by kernel_rfl, by rfl, by rfl, fun _ _ _ _ _ _ us hl => match us, hl with | [_, _], _ => by rfl⟩
theorem x_talk_number : TxOk I.cp ⟨d_talk_number, t_talk_number, ("talk_number", none)⟩ := ⟨by decide +kernel, by kernel_rfl, by rfl, by rfl, fun _ _ _ _ _ _ us hl => match us, hl with | [_], _ => by rfl⟩
theorem x_talk_by : TxOk I.cp ⟨d_talk_by, t_talk_by, ("talk_by", none)⟩ := ⟨by decide +kernel, by kernel_rfl, by rfl, by rfl, fun _ _ _ _ _ _ us hl => match us, hl with | [_, _, _], _ => by rfl⟩
theorem x_plain_talk : TxOk I.cp ⟨d_plain_talk, t_plain_talk, ("plain_talk", none)⟩ := ⟨by decide +kernel, by kernel_rfl, by rfl, by rfl, fun _ _ _ _ _ _ us hl => match us, hl with | [_], _ => by rfl⟩
theorem x_are_kin : TxOk I.cp ⟨d_are_kin, t_are_kin, ("are_kin", none)⟩ := ⟨by decide +kernel, by kernel_rfl, by rfl, by rfl, fun _ _ _ _ _ _ us hl => match us, hl with | [_, _], _ => by rfl⟩
theorem x_are_alike : TxOk I.cp ⟨d_are_alike, t_are_alike, ("are_alike", none)⟩ := ⟨by decide +kernel, by kernel_rfl, by rfl, by rfl, fun _ _ _ _ _ _ us hl => match us, hl with | [_, _], _ => by rfl⟩
theorem x_apart : TxOk I.cp ⟨d_apart, t_apart, ("apart", none)⟩ := ⟨by decide +kernel, by kernel_rfl, by rfl, by rfl, fun _ _ _ _ _ _ us hl => match us, hl with | [_, _], _ => by rfl⟩
theorem x__law_pen : TxOk I.cp ⟨d__law_pen, t__law_pen, ("_law_pen", none)⟩ := ⟨by decide +kernel, by kernel_rfl, by rfl, by rfl, fun _ _ _ _ _ _ us hl => match us, hl with | [_], _ => by rfl⟩
theorem x__law_draw : TxOk I.cp ⟨d__law_draw, t__law_draw, ("_law_draw", none)⟩ := ⟨by decide +kernel, by kernel_rfl, by rfl, by rfl, fun _ _ _ _ _ _ us hl => match us, hl with | [_, _], _ => by rfl⟩
theorem x__law_pick : TxOk I.cp ⟨d__law_pick, t__law_pick, ("_law_pick", none)⟩ := ⟨by decide +kernel, by kernel_rfl, by rfl, by rfl, fun _ _ _ _ _ _ us hl => match us, hl with | [_, _], _ => by rfl⟩
theorem x__law_mixed : TxOk I.cp ⟨d__law_mixed, t__law_mixed, ("_law_mixed", none)⟩ := ⟨by decide +kernel, by kernel_rfl, by rfl, by rfl, fun _ _ _ _ _ _ us hl => match us, hl with | [_, _], _ => by rfl⟩
theorem x__law_made : TxOk I.cp ⟨d__law_made, t__law_made, ("_law_made", none)⟩ := ⟨by decide +kernel, by kernel_rfl, by rfl, by rfl, fun _ _ _ _ _ _ us hl => match us, hl with | [_], _ => by rfl⟩
theorem x__law_asking : TxOk I.cp ⟨d__law_asking, t__law_asking, ("_law_asking", none)⟩ := ⟨by decide +kernel, by kernel_rfl, by rfl, by rfl, fun _ _ _ _ _ _ us hl => match us, hl with | [_], _ => by rfl⟩
theorem x__law_sure : TxOk I.cp ⟨d__law_sure, t__law_sure, ("_law_sure", none)⟩ := ⟨by decide +kernel, by kernel_rfl, by rfl, by rfl, fun _ _ _ _ _ _ us hl => match us, hl with | [_], _ => by rfl⟩
theorem x__law_pull : TxOk I.cp ⟨d__law_pull, t__law_pull, ("_law_pull", none)⟩ := ⟨by decide +kernel, by kernel_rfl, by rfl, by rfl, fun _ _ _ _ _ _ us hl => match us, hl with | [_], _ => by rfl⟩
theorem x__law_any : TxOk I.cp ⟨d__law_any, t__law_any, ("_law_any", none)⟩ := ⟨by decide +kernel, by kernel_rfl, by rfl, by rfl, fun _ _ _ _ _ _ us hl => match us, hl with | [_], _ => by rfl⟩
theorem x__law_bent : TxOk I.cp ⟨d__law_bent, t__law_bent, ("_law_bent", none)⟩ := ⟨by decide +kernel, by kernel_rfl, by rfl, by rfl, fun _ _ _ _ _ _ us hl => match us, hl with | [_, _], _ => by rfl⟩
theorem x__law_talk : TxOk I.cp ⟨d__law_talk, t__law_talk, ("_law_talk", none)⟩ := ⟨by decide +kernel, by kernel_rfl, by rfl, by rfl, fun _ _ _ _ _ _ us hl => match us, hl with | [_], _ => by rfl⟩
theorem x__law_rule : TxOk I.cp ⟨d__law_rule, t__law_rule, ("_law_rule", none)⟩ := ⟨by decide +kernel, by kernel_rfl, by rfl, by rfl, fun _ _ _ _ _ _ us hl => match us, hl with | [_, _, _, _], _ => by rfl⟩
theorem x__law_otherwise : TxOk I.cp ⟨d__law_otherwise, t__law_otherwise, ("_law_otherwise", none)⟩ := ⟨by decide +kernel, by kernel_rfl, by rfl, by rfl, fun _ _ _ _ _ _ us hl => match us, hl with | [_, _], _ => by rfl⟩
theorem x__law_cases : TxOk I.cp ⟨d__law_cases, t__law_cases, ("_law_cases", none)⟩ := ⟨by decide +kernel, by kernel_rfl, by rfl, by rfl, fun _ _ _ _ _ _ us hl => match us, hl with | [_], _ => by rfl⟩
theorem x__law_does : TxOk I.cp ⟨d__law_does, t__law_does, ("_law_does", none)⟩ := ⟨by decide +kernel, by kernel_rfl, by rfl, by rfl, fun _ _ _ _ _ _ us hl => match us, hl with | [_, _], _ => by rfl⟩
theorem x_law : TxOk I.cp ⟨d_law, t_law, ("law", none)⟩ := ⟨by decide +kernel, by kernel_rfl, by rfl, by rfl, fun _ _ _ _ _ _ us hl => match us, hl with | [_], _ => by rfl⟩
theorem x_Talk___init__ : TxOk I.cp ⟨d_Talk___init__, t_Talk___init__, ("Talk", some "__init__")⟩ := ⟨by decide +kernel, by kernel_rfl, by rfl, by rfl, fun _ _ _ _ _ _ us hl => match us, hl with | [_, _, _, _], _ => by rfl⟩
theorem x_Talk_rule_at : TxOk I.cp ⟨d_Talk_rule_at, t_Talk_rule_at, ("Talk", some "rule_at")⟩ := ⟨by decide +kernel, by kernel_rfl, by rfl, by rfl, fun _ _ _ _ _ _ us hl => match us, hl with | [_, _, _, _], _ => by rfl⟩
theorem x_Talk_answer : TxOk I.cp ⟨d_Talk_answer, t_Talk_answer, ("Talk", some "answer")⟩ := ⟨by decide +kernel, by kernel_rfl, by rfl, by rfl, fun _ _ _ _ _ _ us hl => match us, hl with | [_, _, _, _], _ => by rfl⟩
theorem x_Talk_hears : TxOk I.cp ⟨d_Talk_hears, t_Talk_hears, ("Talk", some "hears")⟩ := ⟨by decide +kernel, by kernel_rfl, by rfl, by rfl, fun _ _ _ _ _ _ us hl => match us, hl with | [_, _], _ => by rfl⟩
theorem x_Talk___eq__ : TxOk I.cp ⟨d_Talk___eq__, t_Talk___eq__, ("Talk", some "__eq__")⟩ := ⟨by decide +kernel, by kernel_rfl, by rfl, by rfl, fun _ _ _ _ _ _ us hl => match us, hl with | [_, _], _ => by rfl⟩
theorem txt : HOk' I := by
  refine ⟨by rfl, ?_, ?_⟩
  · intro r hr
    simp only [I, List.mem_append, List.mem_cons, List.not_mem_nil, or_false, or_assoc] at hr
    rcases hr with rfl | rfl | rfl | rfl | rfl | rfl | rfl | rfl | rfl | rfl | rfl | rfl | rfl | rfl | rfl | rfl | rfl | rfl | rfl | rfl | rfl | rfl | rfl | rfl | rfl | rfl | rfl | rfl | rfl | rfl | rfl | rfl | rfl | rfl | rfl | rfl | rfl | rfl | rfl | rfl | rfl | rfl | rfl | rfl | rfl | rfl
    · exact x__wall
    · exact x_is_integer
    · exact x_is_between
    · exact x_is_name
    · exact x_is_listed
    · exact x_ascends
    · exact x_copied
    · exact x_is_rule
    · exact x_need_talk
    · exact x_all_cases
    · exact x_says_in
    · exact x_is_dropping
    · exact x_places_in
    · exact x_place_of
    · exact x_number_in
    · exact x_many_in
    · exact x_rule_by
    · exact x_plain_by
    · exact x_how_many
    · exact x_talk_number
    · exact x_talk_by
    · exact x_plain_talk
    · exact x_are_kin
    · exact x_are_alike
    · exact x_apart
    · exact x__law_pen
    · exact x__law_draw
    · exact x__law_pick
    · exact x__law_mixed
    · exact x__law_made
    · exact x__law_asking
    · exact x__law_sure
    · exact x__law_pull
    · exact x__law_any
    · exact x__law_bent
    · exact x__law_talk
    · exact x__law_rule
    · exact x__law_otherwise
    · exact x__law_cases
    · exact x__law_does
    · exact x_law
    · exact x_Talk___init__
    · exact x_Talk_rule_at
    · exact x_Talk_answer
    · exact x_Talk_hears
    · exact x_Talk___eq__
  · intro r hr
    simp only [I, List.mem_cons, List.not_mem_nil, or_false] at hr
    rcases hr with rfl | rfl
    · exact ⟨⟨d_apart, t_apart, ("apart", none)⟩, by rfl, fun _ _ _ _ _ _ ws hl => match ws, hl with | [_, _], _ => by rfl⟩
    · exact ⟨⟨d_are_alike, t_are_alike, ("are_alike", none)⟩, by rfl, fun _ _ _ _ _ _ ws hl => match ws, hl with | [_, _], _ => by rfl⟩
end K89
end

section
set_option Elab.async false
set_option linter.all false
set_option maxRecDepth 100000
set_option maxHeartbeats 0
/-! The head of law k89. Printed by lawgen.py. -/
namespace K89
open PySem PySem.W PySem.Calls PyProof.Rows
abbrev RO : OpenRow := OpenLaw.row PySem.Challenge.rw_talkbook_k89_talks_alike
abbrev qv : Program := view RO.prog [66]
def loose0 : List PySem.Str := ["_wall", "LETTERS", "MOST_SIGNS", "is_integer", "is_between", "is_name", "is_listed", "ascends", "TalkError", "OfPart", "BadTalk", "BadNumber", "Unlike", "OfPlace", "BadRule", "copied", "LACK", "ASIDE", "HAVE", "STATUSES"]
def loose1 : List PySem.Str := ["BEAT", "GIVE", "MOST_MOODS", "MOST_WORDS", "MOST_RULES", "PARTS", "is_rule", "Talk", "need_talk", "all_cases", "says_in", "is_dropping", "places_in", "place_of", "number_in", "many_in", "rule_by", "plain_by", "how_many", "talk_number"]
def loose2 : List PySem.Str := ["talk_by", "plain_talk", "are_kin", "are_alike", "apart", "_law_pen", "_law_draw", "_law_pick", "_law_mixed", "_law_made", "_law_asking", "_law_sure", "_law_pull", "_law_any", "_law_bent", "_law_talk", "_law_rule", "_law_otherwise", "_law_cases", "_law_does"]
def loose : List PySem.Str := loose0 ++ loose1 ++ loose2
def fnD : List He.DefD := R.HI.ds I |>.map R.HDef.defD
abbrev hk : Hook := He.hookX 5 [] fnD [] [] (R.HI.ex I)
def ob (s : SharedT) : He.AlX := He.obsX 5 [] fnD [] [] (R.HI.ex I) (HandSHeadRun.getT s)
theorem ob_eq (s : SharedT) : ob s = hk.obs s.abs := He.obsX_eq (HandSHeadRun.getT_eq s)
theorem run (w : World) : HandSHeadRun.RunEq RO qv hk ob 20000 loose w := by
  intro os
  kernel_rfl
end K89
end

section
set_option Elab.async false
set_option linter.all false
/-! Numbers of talks, in plain Lean. -/
namespace K89
open PySem
abbrev OS := Option Str
def sLack : Str := "lack"
def sAside : Str := "aside"
def sHave : Str := "have"
def sBeat : Str := "beat"
def sGive : Str := "give"
structure Rule where
  st : OS
  mood : OS
  ev : Str
  later : OS
  say : OS
  hold : Bool
  deriving DecidableEq
structure Tk where
  moods : List Str
  words : List Str
  rules : List Rule
abbrev Case := Str × Str × Str
def statuses : List Str := [sLack, sAside, sHave]
def evs (ws : List Str) : List Str := sBeat :: sGive :: ws
def Rule.fits (r : Rule) (c : Case) : Bool := r.ev == c.2.2 && ((r.st == none || r.st == some c.1) && (r.mood == none || r.mood == some c.2.1))
def answer (T : Tk) (c : Case) : Str × OS × Bool := match T.rules.find? (·.fits c) with
  | none => (c.2.1, none, true)
  | some r => (r.later.getD c.2.1, r.say, r.hold)
def casesOf (ms ws : List Str) : List Case := statuses.flatMap fun s => ms.flatMap fun m => (evs ws).map fun e => (s, m, e)
def saysOf (ws : List Str) (c : Case) : List OS := if c.1 = sLack ∧ c.2.2 ≠ sGive then none :: ws.map some else none :: some sGive :: ws.map some
def dropOf (c : Case) : Bool := c.1 == sLack && c.2.2 == sGive
def placesOf (ms ws : List Str) (c : Case) : Nat := ms.length * (saysOf ws c).length * (if dropOf c then 2 else 1)
def toldOf (ws : List Str) (c : Case) (say : OS) (hold : Bool) : Nat :=
  let says := saysOf ws c
  (if say ∈ says then says.idxOf say else 0) + (if dropOf c && !hold then says.length else 0)
def placeOf (T : Tk) (c : Case) : Nat := T.moods.idxOf (answer T c).1 + T.moods.length * toldOf T.words c (answer T c).2.1 (answer T c).2.2
def numL : List (Nat × Nat) → Nat
  | [] => 0
  | (p, q) :: r => p + q * numL r
def prodL : List Nat → Nat
  | [] => 1
  | q :: r => q * prodL r
def digL : List Nat → Nat → List Nat
  | [], _ => []
  | q :: r, n => n % q :: digL r (n / q)
def pairs (T : Tk) : List (Nat × Nat) := (casesOf T.moods T.words).map fun c => (placeOf T c, placesOf T.moods T.words c)
def number (T : Tk) : Nat := numL (pairs T)
def qs (ms ws : List Str) : List Nat := (casesOf ms ws).map (placesOf ms ws)
def many (ms ws : List Str) : Nat := prodL (qs ms ws)
def ruleBy (ms ws : List Str) (c : Case) (place : Nat) : Option Rule :=
  let says := saysOf ws c
  let later := ms.getD (place % ms.length) c.2.1
  let told := place / ms.length
  let say := says.getD (told % says.length) none
  let held := decide (told < says.length)
  if later = c.2.1 ∧ say = none ∧ held = true then none else some ⟨some c.1, some c.2.1, c.2.2, if later = c.2.1 then none else some later, say, held⟩
def plainRules (ms ws : List Str) (n : Nat) : List Rule := ((casesOf ms ws).zip (digL (qs ms ws) n)).filterMap fun x => ruleBy ms ws x.1 x.2
def plainTk (ms ws : List Str) (n : Nat) : Tk := ⟨ms, ws, plainRules ms ws n⟩

/-- what a talk's moods and words are -/
structure ValM (ms ws : List Str) : Prop where
  m1 : 1 ≤ ms.length
  m5 : ms.length ≤ 5
  mn : ms.Nodup
  w4 : ws.length ≤ 4
  en : (evs ws).Nodup
structure RuleOk (ms ws : List Str) (r : Rule) : Prop where
  st : ∀ s, r.st = some s → s ∈ statuses
  mood : ∀ s, r.mood = some s → s ∈ ms
  ev : r.ev ∈ evs ws
  later : ∀ s, r.later = some s → s ∈ ms
  say : ∀ s, r.say = some s → s = sGive ∨ s ∈ ws
structure Val (T : Tk) : Prop where
  v : ValM T.moods T.words
  r90 : T.rules.length ≤ 90
  ok : ∀ r ∈ T.rules, RuleOk T.moods T.words r

/-! ### mixed radix -/
theorem numL_lt : ∀ (l : List (Nat × Nat)), (∀ x ∈ l, x.1 < x.2) → numL l < prodL (l.map (·.2))
  | [], _ => by simp [numL, prodL]
  | (p, q) :: r, h => by
    have h1 : p < q := h (p, q) List.mem_cons_self
    have ih := numL_lt r fun x hx => h x (List.mem_cons_of_mem _ hx)
    show p + q * numL r < q * prodL (r.map (·.2))
    have : q * (numL r + 1) ≤ q * prodL (r.map (·.2)) := Nat.mul_le_mul_left q ih
    rw [Nat.mul_add, Nat.mul_one] at this
    omega
theorem digL_numL : ∀ (l : List (Nat × Nat)), (∀ x ∈ l, x.1 < x.2) → digL (l.map (·.2)) (numL l) = l.map (·.1)
  | [], _ => rfl
  | (p, q) :: r, h => by
    have h1 : p < q := h (p, q) List.mem_cons_self
    have ih := digL_numL r fun x hx => h x (List.mem_cons_of_mem _ hx)
    show (p + q * numL r) % q :: digL (r.map (·.2)) ((p + q * numL r) / q) = p :: r.map (·.1)
    rw [Nat.add_mul_mod_self_left, Nat.mod_eq_of_lt h1, Nat.add_mul_div_left _ _ (by omega), Nat.div_eq_of_lt h1, Nat.zero_add, ih]
theorem numL_digL : ∀ (l : List Nat) (n : Nat), n < prodL l → numL ((digL l n).zip l) = n
  | [], n, h => by
    have : n = 0 := by simp only [prodL] at h; omega
    subst this
    rfl
  | q :: r, n, h => by
    have h : n < q * prodL r := h
    have ih := numL_digL r (n / q) (Nat.div_lt_of_lt_mul h)
    show n % q + q * numL ((digL r (n / q)).zip r) = n
    rw [ih]
    exact Nat.mod_add_div n q
theorem digL_length : ∀ (l : List Nat) (n : Nat), (digL l n).length = l.length
  | [], _ => rfl
  | q :: r, n => congrArg Nat.succ (digL_length r (n / q))
theorem digL_lt : ∀ (l : List Nat) (n : Nat), (∀ q ∈ l, 0 < q) → ∀ x ∈ (digL l n).zip l, x.1 < x.2
  | [], _, _, x, hx => by simp [digL] at hx
  | q :: r, n, h, x, hx => by
    simp only [digL, List.zip_cons_cons, List.mem_cons] at hx
    rcases hx with rfl | hx
    · exact Nat.mod_lt _ (h q List.mem_cons_self)
    · exact digL_lt r (n / q) (fun z hz => h z (List.mem_cons_of_mem _ hz)) x hx

/-! ### cases -/
theorem statuses_nodup : statuses.Nodup := by decide
theorem mem_cases {ms ws : List Str} {c : Case} : c ∈ casesOf ms ws ↔ c.1 ∈ statuses ∧ c.2.1 ∈ ms ∧ c.2.2 ∈ evs ws := by
  obtain ⟨s, m, e⟩ := c
  simp only [casesOf, List.mem_flatMap, List.mem_map, Prod.mk.injEq]
  constructor
  · rintro ⟨s', h1, m', h2, e', h3, rfl, rfl, rfl⟩
    exact ⟨h1, h2, h3⟩
  · rintro ⟨h1, h2, h3⟩
    exact ⟨s, h1, m, h2, e, h3, rfl, rfl, rfl⟩
theorem nodup_flatMap {α β : Type} {l : List α} {f : α → List β} (hl : l.Nodup) (hf : ∀ a ∈ l, (f a).Nodup) (hd : ∀ a ∈ l, ∀ b ∈ l, a ≠ b → ∀ x, x ∈ f a → x ∉ f b) : (l.flatMap f).Nodup := by
  induction l with
  | nil => exact List.nodup_nil
  | cons a l ih =>
    rw [List.flatMap_cons, List.nodup_append]
    have hc := List.nodup_cons.mp hl
    refine ⟨hf a List.mem_cons_self, ih hc.2 (fun b hb => hf b (List.mem_cons_of_mem _ hb)) (fun b hb c hc' n => hd b (List.mem_cons_of_mem _ hb) c (List.mem_cons_of_mem _ hc') n), fun x hx y hy e => ?_⟩
    subst e
    obtain ⟨b, hb, hxb⟩ := List.mem_flatMap.mp hy
    exact hd a List.mem_cons_self b (List.mem_cons_of_mem _ hb) (fun z => hc.1 (z ▸ hb)) x hx hxb
theorem nodup_map {α β : Type} {l : List α} {f : α → β} (hl : l.Nodup) (hf : ∀ a b, f a = f b → a = b) : (l.map f).Nodup := by
  rw [List.Nodup, List.pairwise_map]
  exact List.Pairwise.imp (fun n z => n (hf _ _ z)) hl
theorem cases_nodup {ms ws : List Str} (v : ValM ms ws) : (casesOf ms ws).Nodup := by
  refine nodup_flatMap statuses_nodup (fun s _ => nodup_flatMap v.mn (fun m _ => nodup_map v.en fun a b h => by simpa using h) fun m _ m' _ n x h1 h2 => ?_) fun s _ s' _ n x h1 h2 => ?_
  · simp only [List.mem_map] at h1 h2
    obtain ⟨e, _, rfl⟩ := h1
    obtain ⟨e', _, h⟩ := h2
    simp only [Prod.mk.injEq] at h
    exact n h.2.1.symm
  · simp only [List.mem_flatMap, List.mem_map] at h1 h2
    obtain ⟨m, _, e, _, rfl⟩ := h1
    obtain ⟨m', _, e', _, h⟩ := h2
    simp only [Prod.mk.injEq] at h
    exact n h.1.symm
theorem length_flatMap_const {α β : Type} {l : List α} {f : α → List β} {k : Nat} (h : ∀ a ∈ l, (f a).length = k) : (l.flatMap f).length = l.length * k := by
  induction l with
  | nil => simp
  | cons a l ih =>
    rw [List.flatMap_cons, List.length_append, h a List.mem_cons_self, ih fun b hb => h b (List.mem_cons_of_mem _ hb), List.length_cons, Nat.add_mul, Nat.one_mul, Nat.add_comm]
theorem cases_length (ms ws : List Str) : (casesOf ms ws).length = 3 * (ms.length * (ws.length + 2)) := by
  unfold casesOf
  rw [length_flatMap_const (k := ms.length * (ws.length + 2)) fun s _ => length_flatMap_const (k := ws.length + 2) fun m _ => by simp [evs]]
  rfl
theorem cases_le {ms ws : List Str} (v : ValM ms ws) : (casesOf ms ws).length ≤ 90 := by
  rw [cases_length]
  have h1 := v.m5
  have h2 := v.w4
  have := Nat.mul_le_mul h1 (show ws.length + 2 ≤ 6 by omega)
  omega
theorem says_pos (ws : List Str) (c : Case) : 0 < (saysOf ws c).length := by unfold saysOf; split <;> simp
theorem says_nodup {ms ws : List Str} (v : ValM ms ws) (c : Case) : (saysOf ws c).Nodup := by
  have h := v.en
  unfold evs at h
  have h1 := (List.nodup_cons.mp (List.nodup_cons.mp h).2)
  have h3 : (ws.map some).Nodup := nodup_map h1.2 fun a b z => Option.some.inj z
  unfold saysOf
  split
  · rw [List.nodup_cons]
    exact ⟨by simp, h3⟩
  · rw [List.nodup_cons, List.nodup_cons]
    refine ⟨by simp, ?_, h3⟩
    simpa using h1.1
theorem none_mem_says (ws : List Str) (c : Case) : (none : OS) ∈ saysOf ws c := by unfold saysOf; split <;> simp
theorem idx_none (ws : List Str) (c : Case) : (saysOf ws c).idxOf (none : OS) = 0 := by unfold saysOf; split <;> simp
theorem places_pos {ms ws : List Str} (v : ValM ms ws) (c : Case) : 0 < placesOf ms ws c := by
  unfold placesOf
  refine Nat.mul_pos (Nat.mul_pos v.m1 (says_pos ws c)) ?_
  split <;> decide
theorem qs_pos {ms ws : List Str} (v : ValM ms ws) : ∀ q ∈ qs ms ws, 0 < q := fun q hq => by
  obtain ⟨c, _, rfl⟩ := List.mem_map.mp hq
  exact places_pos v c
theorem prodL_pos : ∀ {l : List Nat}, (∀ q ∈ l, 0 < q) → 0 < prodL l
  | [], _ => Nat.one_pos
  | q :: r, h => Nat.mul_pos (h q List.mem_cons_self) (prodL_pos fun z hz => h z (List.mem_cons_of_mem _ hz))
theorem many_pos {ms ws : List Str} (v : ValM ms ws) : 0 < many ms ws := prodL_pos (qs_pos v)

/-! ### places -/
theorem find_mem {T : Tk} {c : Case} {r : Rule} (h : T.rules.find? (·.fits c) = some r) : r ∈ T.rules := List.mem_of_find?_eq_some h
theorem answer_mood {T : Tk} (V : Val T) {c : Case} (hc : c ∈ casesOf T.moods T.words) : (answer T c).1 ∈ T.moods := by
  unfold answer
  split
  · exact (mem_cases.mp hc).2.1
  · rename_i r h
    show r.later.getD c.2.1 ∈ T.moods
    cases hl : r.later with
    | none => exact (mem_cases.mp hc).2.1
    | some s => exact (V.ok r (find_mem h)).later s hl
theorem told_lt (ws : List Str) (c : Case) (say : OS) (hold : Bool) : toldOf ws c say hold < (saysOf ws c).length * (if dropOf c then 2 else 1) := by
  have hp := says_pos ws c
  unfold toldOf
  have h1 : (if say ∈ saysOf ws c then (saysOf ws c).idxOf say else 0) < (saysOf ws c).length := by
    split
    · rename_i h; exact List.idxOf_lt_length_iff.mpr h
    · exact hp
  cases hd : dropOf c <;> cases hold <;> simp <;> omega
theorem place_lt {T : Tk} (V : Val T) {c : Case} (hc : c ∈ casesOf T.moods T.words) : placeOf T c < placesOf T.moods T.words c := by
  have h1 : T.moods.idxOf (answer T c).1 < T.moods.length := List.idxOf_lt_length_iff.mpr (answer_mood V hc)
  have h2 := told_lt T.words c (answer T c).2.1 (answer T c).2.2
  unfold placeOf placesOf
  rw [Nat.mul_assoc]
  have h3 : T.moods.length * (toldOf T.words c (answer T c).2.1 (answer T c).2.2 + 1) ≤ T.moods.length * ((saysOf T.words c).length * (if dropOf c = true then 2 else 1)) := Nat.mul_le_mul_left _ h2
  rw [Nat.mul_add, Nat.mul_one] at h3
  omega
theorem pairs_lt {T : Tk} (V : Val T) : ∀ x ∈ pairs T, x.1 < x.2 := fun x hx => by
  obtain ⟨c, hc, rfl⟩ := List.mem_map.mp hx
  exact place_lt V hc
theorem pairs_snd (T : Tk) : (pairs T).map (·.2) = qs T.moods T.words := by
  unfold pairs qs
  rw [List.map_map]
  rfl
theorem number_lt {T : Tk} (V : Val T) : number T < many T.moods T.words := by
  have := numL_lt (pairs T) (pairs_lt V)
  rwa [pairs_snd] at this
theorem dig_number {T : Tk} (V : Val T) : digL (qs T.moods T.words) (number T) = (casesOf T.moods T.words).map (placeOf T) := by
  have := digL_numL (pairs T) (pairs_lt V)
  rw [pairs_snd] at this
  rw [number, this]
  unfold pairs
  rw [List.map_map]
  rfl

/-! ### a rule by a place -/
/-- what a case's rule says when read back -/
def doesBy (ms ws : List Str) (c : Case) (place : Nat) : Str × OS × Bool :=
  (ms.getD (place % ms.length) c.2.1, (saysOf ws c).getD ((place / ms.length) % (saysOf ws c).length) none, decide (place / ms.length < (saysOf ws c).length))
theorem ruleBy_some {ms ws : List Str} {c : Case} {p : Nat} {r : Rule} (h : ruleBy ms ws c p = some r) : r.st = some c.1 ∧ r.mood = some c.2.1 ∧ r.ev = c.2.2 ∧ (r.later.getD c.2.1, r.say, r.hold) = doesBy ms ws c p ∧ (r.later = none ∨ r.later = some (ms.getD (p % ms.length) c.2.1)) := by
  simp only [ruleBy] at h
  split at h
  · cases h
  · injection h with h
    subst h
    refine ⟨rfl, rfl, rfl, ?_, ?_⟩
    · unfold doesBy
      split
      · rename_i h; simp only [Option.getD_none]; rw [h]
      · rfl
    · split
      · exact .inl rfl
      · exact .inr rfl
theorem ruleBy_none {ms ws : List Str} {c : Case} {p : Nat} (h : ruleBy ms ws c p = none) : doesBy ms ws c p = (c.2.1, none, true) := by
  simp only [ruleBy] at h
  split at h
  · rename_i h1
    unfold doesBy
    rw [h1.1, h1.2.1, h1.2.2]
  · cases h
theorem fits_ruleBy {ms ws : List Str} {c c' : Case} {p : Nat} {r : Rule} (h : ruleBy ms ws c p = some r) : r.fits c' = true ↔ c' = c := by
  obtain ⟨h1, h2, h3, _⟩ := ruleBy_some h
  unfold Rule.fits
  rw [h1, h2, h3]
  obtain ⟨s, m, e⟩ := c
  obtain ⟨s', m', e'⟩ := c'
  simp only [Bool.and_eq_true, Bool.or_eq_true, beq_iff_eq, reduceCtorEq, false_or, Option.some.injEq, Prod.mk.injEq]
  constructor
  · rintro ⟨rfl, rfl, rfl⟩; exact ⟨rfl, rfl, rfl⟩
  · rintro ⟨rfl, rfl, rfl⟩; exact ⟨rfl, rfl, rfl⟩
theorem find_plain {ms ws : List Str} : ∀ {cs : List Case} {ds : List Nat} {i : Nat} {c : Case} {d : Nat}, cs.Nodup → cs[i]? = some c → ds[i]? = some d →
    ((cs.zip ds).filterMap fun x => ruleBy ms ws x.1 x.2).find? (·.fits c) = ruleBy ms ws c d
  | [], _, _, _, _, _, h, _ => by simp at h
  | _ :: _, [], _, _, _, _, _, h => by simp at h
  | c0 :: cs, d0 :: ds, 0, c, d, hn, h1, h2 => by
    simp only [List.getElem?_cons_zero, Option.some.injEq] at h1 h2
    subst h1 h2
    have hc := List.nodup_cons.mp hn
    rw [List.zip_cons_cons, List.filterMap_cons]
    cases hr : ruleBy ms ws c0 d0 with
    | none =>
      simp only
      rw [List.find?_eq_none]
      intro r hr' hf
      obtain ⟨⟨c', d'⟩, hx, hr2⟩ := List.mem_filterMap.mp hr'
      have := (fits_ruleBy hr2).mp hf
      subst this
      exact hc.1 (List.of_mem_zip hx).1
    | some r =>
      simp only
      rw [List.find?_cons, (fits_ruleBy hr).mpr rfl]
  | c0 :: cs, d0 :: ds, i + 1, c, d, hn, h1, h2 => by
    have h1 : cs[i]? = some c := by simpa using h1
    have h2 : ds[i]? = some d := by simpa using h2
    have hc := List.nodup_cons.mp hn
    have ih := find_plain hc.2 h1 h2 (ms := ms) (ws := ws)
    rw [List.zip_cons_cons, List.filterMap_cons]
    cases hr : ruleBy ms ws c0 d0 with
    | none => exact ih
    | some r =>
      simp only
      rw [List.find?_cons]
      have : r.fits c = false := by
        cases hf : r.fits c with
        | false => rfl
        | true =>
          have e := (fits_ruleBy hr).mp hf
          exact absurd (e ▸ List.mem_of_getElem? h1) hc.1
      rw [this]
      exact ih
theorem answer_plain {ms ws : List Str} (v : ValM ms ws) (n : Nat) {i : Nat} {c : Case} {d : Nat} (h1 : (casesOf ms ws)[i]? = some c) (h2 : (digL (qs ms ws) n)[i]? = some d) : answer (plainTk ms ws n) c = doesBy ms ws c d := by
  have h := find_plain (ms := ms) (ws := ws) (cases_nodup v) h1 h2
  unfold answer
  show (match (plainRules ms ws n).find? (·.fits c) with | none => _ | some r => _) = _
  rw [show (plainRules ms ws n).find? (·.fits c) = ruleBy ms ws c d from h]
  cases hr : ruleBy ms ws c d with
  | none => exact (ruleBy_none hr).symm
  | some r => exact (ruleBy_some hr).2.2.2.1
/-- a place read back -/
theorem told_by {ms ws : List Str} (v : ValM ms ws) (c : Case) {p : Nat} (hp : p < placesOf ms ws c) : ms.idxOf (doesBy ms ws c p).1 + ms.length * toldOf ws c (doesBy ms ws c p).2.1 (doesBy ms ws c p).2.2 = p := by
  have hl : 0 < ms.length := v.m1
  have hs := says_pos ws c
  have hp' : p / ms.length < (saysOf ws c).length * (if dropOf c then 2 else 1) := by
    refine Nat.div_lt_of_lt_mul ?_
    unfold placesOf at hp
    rwa [Nat.mul_assoc] at hp
  have e1 : ms.idxOf (doesBy ms ws c p).1 = p % ms.length := by
    have hm : p % ms.length < ms.length := Nat.mod_lt _ hl
    unfold doesBy
    simp only
    rw [List.getD_eq_getElem?_getD, List.getElem?_eq_getElem hm, Option.getD_some]
    exact v.mn.idxOf_getElem _ hm
  have e2 : toldOf ws c (doesBy ms ws c p).2.1 (doesBy ms ws c p).2.2 = p / ms.length := by
    have hm : p / ms.length % (saysOf ws c).length < (saysOf ws c).length := Nat.mod_lt _ hs
    unfold doesBy toldOf
    simp only
    rw [List.getD_eq_getElem?_getD, List.getElem?_eq_getElem hm, Option.getD_some, if_pos (List.getElem_mem _), (says_nodup v c).idxOf_getElem _ hm]
    have gen : ∀ k, k = p / ms.length % (saysOf ws c).length → (k + if (dropOf c && !decide (p / ms.length < (saysOf ws c).length)) = true then (saysOf ws c).length else 0) = p / ms.length := ?_
    · exact gen _ rfl
    intro k hk
    clear hm
    generalize p / ms.length = t at hp' hk ⊢
    by_cases ht : t < (saysOf ws c).length
    · rw [Nat.mod_eq_of_lt ht] at hk
      simp [ht, hk]
    · cases hd : dropOf c with
      | false => rw [hd] at hp'; simp at hp'; exact absurd hp' ht
      | true =>
        rw [hd] at hp'
        simp at hp'
        have : t % (saysOf ws c).length = t - (saysOf ws c).length := by
          rw [Nat.mod_eq_sub_mod (by omega), Nat.mod_eq_of_lt (by omega)]
        rw [this] at hk
        simp [ht, hk]
        omega
  rw [e1, e2]
  exact Nat.mod_add_div p ms.length
theorem number_plain {ms ws : List Str} (v : ValM ms ws) {n : Nat} (hn : n < many ms ws) : number (plainTk ms ws n) = n := by
  have key : pairs (plainTk ms ws n) = (digL (qs ms ws) n).zip (qs ms ws) := by
    apply List.ext_getElem?
    intro i
    have hlen : (digL (qs ms ws) n).length = (casesOf ms ws).length := by rw [digL_length]; simp [qs]
    show ((casesOf ms ws).map fun c => (placeOf (plainTk ms ws n) c, placesOf ms ws c))[i]? = _
    rw [List.getElem?_map]
    cases h1 : (casesOf ms ws)[i]? with
    | none =>
      have : (qs ms ws)[i]? = none := by unfold qs; rw [List.getElem?_map, h1]; rfl
      have h0 : ((digL (qs ms ws) n).zip (qs ms ws))[i]? = none := by
        rw [List.getElem?_eq_none_iff] at h1 ⊢
        rw [List.length_zip]
        omega
      rw [h0]; rfl
    | some c =>
      have hi : i < (casesOf ms ws).length := (List.getElem?_eq_some_iff.mp h1).1
      have hd : (digL (qs ms ws) n)[i]? = some ((digL (qs ms ws) n)[i]'(by rw [hlen]; exact hi)) := List.getElem?_eq_getElem _
      have hq : (qs ms ws)[i]? = some (placesOf ms ws c) := by unfold qs; rw [List.getElem?_map, h1]; rfl
      have hz : ((digL (qs ms ws) n).zip (qs ms ws))[i]? = some ((digL (qs ms ws) n)[i]'(by rw [hlen]; exact hi), placesOf ms ws c) := List.getElem?_zip_eq_some.mpr ⟨hd, hq⟩
      rw [hz]
      have hlt := digL_lt (qs ms ws) n (qs_pos v) _ (List.mem_of_getElem? hz)
      simp only [Option.map_some, Option.some.injEq, Prod.mk.injEq, and_true]
      have ha := answer_plain v n h1 hd
      unfold placeOf
      rw [ha]
      exact told_by v c hlt
  rw [number, key]
  exact numL_digL _ _ hn

/-! ### the plain talk is a talk -/
theorem getD_mem {ms : List Str} {i : Nat} {d : Str} (h : i < ms.length) : ms.getD i d ∈ ms := by
  rw [List.getD_eq_getElem?_getD, List.getElem?_eq_getElem h]
  exact List.getElem_mem _
theorem says_mem {ws : List Str} {c : Case} {s : Str} (h : some s ∈ saysOf ws c) : s = sGive ∨ s ∈ ws := by
  unfold saysOf at h
  split at h <;> simp at h
  · exact .inr h
  · exact h
theorem ruleBy_ok {ms ws : List Str} (v : ValM ms ws) {c : Case} (hc : c ∈ casesOf ms ws) {p : Nat} {r : Rule} (h : ruleBy ms ws c p = some r) : RuleOk ms ws r := by
  obtain ⟨h1, h2, h3, h4, h5⟩ := ruleBy_some h
  obtain ⟨c1, c2, c3⟩ := mem_cases.mp hc
  refine ⟨fun s e => ?_, fun s e => ?_, by rw [h3]; exact c3, fun s e => ?_, fun s e => ?_⟩
  · rw [h1] at e; cases e; exact c1
  · rw [h2] at e; cases e; exact c2
  · rcases h5 with h5 | h5
    · rw [h5] at e; cases e
    · rw [h5] at e; cases e
      exact getD_mem (Nat.mod_lt _ v.m1)
  · have : r.say = (saysOf ws c).getD ((p / ms.length) % (saysOf ws c).length) none := by
      have := congrArg (fun x => x.2.1) h4
      exact this
    rw [this, List.getD_eq_getElem?_getD, List.getElem?_eq_getElem (Nat.mod_lt _ (says_pos ws c)), Option.getD_some] at e
    exact says_mem (by rw [← e]; exact List.getElem_mem _)
theorem val_plain {ms ws : List Str} (v : ValM ms ws) (n : Nat) : Val (plainTk ms ws n) := by
  refine ⟨v, ?_, fun r hr => ?_⟩
  · refine Nat.le_trans (List.length_filterMap_le _ _) ?_
    rw [List.length_zip]
    exact Nat.le_trans (Nat.min_le_left _ _) (cases_le v)
  · obtain ⟨⟨c, d⟩, hx, hr⟩ := List.mem_filterMap.mp hr
    exact ruleBy_ok v (List.of_mem_zip hx).1 hr

/-! ### the law's own way -/
/-- what is seen of a talk in a case -/
def does (T : Tk) (c : Case) : Str × OS × Bool := ((answer T c).1, if (answer T c).2.1 ∈ saysOf T.words c then (answer T c).2.1 else none, (answer T c).2.2 || !dropOf c)
theorem does_by {T : Tk} (V : Val T) {c : Case} (hc : c ∈ casesOf T.moods T.words) : doesBy T.moods T.words c (placeOf T c) = does T c := by
  have hl : 0 < T.moods.length := V.v.m1
  have h1 : T.moods.idxOf (answer T c).1 < T.moods.length := List.idxOf_lt_length_iff.mpr (answer_mood V hc)
  have em : placeOf T c % T.moods.length = T.moods.idxOf (answer T c).1 := by unfold placeOf; rw [Nat.add_mul_mod_self_left, Nat.mod_eq_of_lt h1]
  have ed : placeOf T c / T.moods.length = toldOf T.words c (answer T c).2.1 (answer T c).2.2 := by unfold placeOf; rw [Nat.add_mul_div_left _ _ hl, Nat.div_eq_of_lt h1, Nat.zero_add]
  unfold doesBy does
  rw [em, ed]
  have hs := says_pos T.words c
  have hi : (if (answer T c).2.1 ∈ saysOf T.words c then (saysOf T.words c).idxOf (answer T c).2.1 else 0) < (saysOf T.words c).length := by
    split
    · rename_i h; exact List.idxOf_lt_length_iff.mpr h
    · exact hs
  refine Prod.ext ?_ (Prod.ext ?_ ?_)
  · simp only
    rw [List.getD_eq_getElem?_getD, List.getElem?_eq_getElem h1, Option.getD_some, List.getElem_idxOf]
  · simp only
    have e3 : toldOf T.words c (answer T c).2.1 (answer T c).2.2 % (saysOf T.words c).length = (if (answer T c).2.1 ∈ saysOf T.words c then (saysOf T.words c).idxOf (answer T c).2.1 else 0) := by
      unfold toldOf
      simp only
      generalize (if (answer T c).2.1 ∈ saysOf T.words c then (saysOf T.words c).idxOf (answer T c).2.1 else 0) = j at hi ⊢
      split
      · rw [Nat.add_mod_right, Nat.mod_eq_of_lt hi]
      · rw [Nat.add_zero, Nat.mod_eq_of_lt hi]
    rw [e3, List.getD_eq_getElem?_getD, List.getElem?_eq_getElem hi, Option.getD_some]
    by_cases hm : (answer T c).2.1 ∈ saysOf T.words c
    · simp only [hm, if_true]
      exact List.getElem_idxOf _
    · simp only [hm, if_false]
      have h0 := idx_none T.words c
      have := List.getElem_idxOf (xs := saysOf T.words c) (x := none) (List.idxOf_lt_length_iff.mpr (none_mem_says T.words c))
      simp only [h0] at this
      exact this
  · simp only
    unfold toldOf
    simp only
    have gen : ∀ j, j < (saysOf T.words c).length → ∀ d h : Bool, decide ((j + if (d && !h) = true then (saysOf T.words c).length else 0) < (saysOf T.words c).length) = (h || !d) := by
      intro j hj d h
      cases d <;> cases h <;> simp <;> omega
    exact gen _ hi _ _
def seenRule (T : Tk) (c : Case) : Option Rule :=
  if (does T c).1 = c.2.1 ∧ (does T c).2.1 = none ∧ (does T c).2.2 = true then none
  else some ⟨some c.1, some c.2.1, c.2.2, if (does T c).1 = c.2.1 then none else some (does T c).1, (does T c).2.1, (does T c).2.2⟩
theorem ruleBy_place {T : Tk} (V : Val T) {c : Case} (hc : c ∈ casesOf T.moods T.words) : ruleBy T.moods T.words c (placeOf T c) = seenRule T c := by
  have h := does_by V hc
  unfold ruleBy seenRule
  rw [← h]
  rfl
theorem filterMap_zip_map {α β γ : Type} (f : α → β) (g : α → β → Option γ) : ∀ l : List α, (l.zip (l.map f)).filterMap (fun x => g x.1 x.2) = l.filterMap fun a => g a (f a)
  | [] => rfl
  | a :: l => by
    rw [List.map_cons, List.zip_cons_cons, List.filterMap_cons, List.filterMap_cons, filterMap_zip_map f g l]
theorem filterMap_congr' {α β : Type} {f g : α → Option β} : ∀ {l : List α}, (∀ a ∈ l, f a = g a) → l.filterMap f = l.filterMap g
  | [], _ => rfl
  | a :: l, h => by
    rw [List.filterMap_cons, List.filterMap_cons, h a List.mem_cons_self, filterMap_congr' fun b hb => h b (List.mem_cons_of_mem _ hb)]
theorem plain_number {T : Tk} (V : Val T) : plainRules T.moods T.words (number T) = (casesOf T.moods T.words).filterMap (seenRule T) := by
  unfold plainRules
  rw [dig_number V]
  rw [show ((casesOf T.moods T.words).zip ((casesOf T.moods T.words).map (placeOf T))).filterMap (fun x => ruleBy T.moods T.words x.1 x.2) = (casesOf T.moods T.words).filterMap fun c => ruleBy T.moods T.words c (placeOf T c) from filterMap_zip_map _ _ _]
  exact filterMap_congr' fun c hc => ruleBy_place V hc
end K89
end

section
set_option Elab.async false
set_option linter.all false
set_option maxRecDepth 100000
set_option maxHeartbeats 1000000
namespace K89
open PySem L2 R
theorem isi_int_int (i : Int) (h : PH) : isiAny P h (.int i) ["int"] = some true := by rfl
theorem isi_int_bool (i : Int) (h : PH) : isiAny P h (.int i) ["bool"] = some false := by rfl
theorem isi_str (s : Str) (h : PH) : isiAny P h (.str s) ["str"] = some true := by rfl
theorem isi_str_lt (s : Str) (h : PH) : isiAny P h (.str s) ["list", "tuple"] = some false := by rfl
theorem isi_str_d (s : Str) (h : PH) : isiAny P h (.str s) ["dict"] = some false := by rfl
theorem isi_non_lt (h : PH) : isiAny P h .non ["list", "tuple"] = some false := by rfl
theorem isi_non_d (h : PH) : isiAny P h .non ["dict"] = some false := by rfl
theorem isi_bl_lt (b : Bool) (h : PH) : isiAny P h (.bl b) ["list", "tuple"] = some false := by rfl
theorem isi_bl_d (b : Bool) (h : PH) : isiAny P h (.bl b) ["dict"] = some false := by rfl
theorem isi_tup (l : List PV) (h : PH) : isiAny P h (.tup l) ["list", "tuple"] = some true := by rfl
theorem isi_bool (b : Bool) (h : PH) : isiAny P h (.bl b) ["bool"] = some true := by rfl
theorem isi_lst {n : Nat} {l : List PV} {h : PH} (e : h[n]? = some (.lst l)) : isiAny P h (.ref n) ["list", "tuple"] = some true := by
  have : kdOf h (.ref n) = some (.ty "list") := by simp [kdOf, e]
  unfold isiAny isiOne
  rw [this]
  rfl
theorem isi_seq {v : PV} {l : List PV} {h : PH} (s : SeqV h v l) : isiAny P h v ["list", "tuple"] = some true := by
  rcases s with rfl | ⟨n, rfl, e⟩
  · exact isi_tup l h
  · exact isi_lst e
theorem e_is_integer : P.fn "is_integer" = some d_is_integer := by rfl
theorem q_is_integer (n : Nat) (i : Int) (h : PH) : Fn P (n + 1) "is_integer" [.int i] h = .ok (.bl true) h := by
  rw [fn_eq e_is_integer rfl]
  simp [d_is_integer, R.run, exs, ex, ev, isi_int_int, isi_int_bool]
theorem e_is_between : P.fn "is_between" = some d_is_between := by rfl
theorem q_is_between (n : Nat) (i a b : Int) (h : PH) (h1 : a ≤ i) (h2 : i ≤ b) : Fn P (n + 2) "is_between" [.int i, .int a, .int b] h = .ok (.bl true) h := by
  rw [fn_eq e_is_between rfl]
  simp [d_is_between, R.run, exs, ex, ev, q_is_integer, h1, h2]
def caseV (c : Case) : PV := .tup [.str c.1, .str c.2.1, .str c.2.2]
def ruleV (r : Rule) : PV := .tup [vS r.st, vS r.mood, .str r.ev, vS r.later, vS r.say, .bl r.hold]
theorem e_is_dropping : P.fn "is_dropping" = some d_is_dropping := by rfl
theorem q_is_dropping (n : Nat) (c : Case) (h : PH) : Fn P (n + 1) "is_dropping" [caseV c] h = .ok (.bl (dropOf c)) h := by
  rw [fn_eq e_is_dropping rfl]
  simp only [dropOf, sLack, sGive]
  cases hx : (c.1 == ("lack" : Str)) <;> simp [d_is_dropping, R.run, exs, ex, ev, caseV, hx]
theorem e_says_in : P.fn "says_in" = some d_says_in := by rfl
theorem q_says_in (n : Nat) (c : Case) (ws : List Str) (h : PH) (hw : ws.length ≤ 1000) : Fn P (n + 1) "says_in" [caseV c, .tup (ws.map .str)] h = .ok (.tup ((saysOf ws c).map vS)) h := by
  rw [fn_eq e_says_in rfl]
  have z1 : ws.length + 1 ≤ sizeL := by unfold sizeL; omega
  have z2 : ws.length + 1 + 1 ≤ sizeL := by unfold sizeL; omega
  have m : (ws.map some).map vS = ws.map .str := (map_vS ws).symm
  simp only [saysOf, sLack, sGive]
  cases hx : (c.1 == ("lack" : Str)) <;> cases hy : (c.2.2 == ("give" : Str)) <;> (
    have hx' := hx
    have hy' := hy
    simp only [beq_iff_eq, beq_eq_false_iff_ne, ne_eq] at hx' hy'
    simp [d_says_in, R.run, exs, ex, ev, caseV, asgV, setAll, hx, hy, hx', hy', z1, z2])
  all_goals simpa using m.symm
/-- an instance -/
def TalkAt (h : PH) (t : Nat) (T : Tk) : Prop := h[t]? = some (.ins "Talk" [("moods", .tup (T.moods.map .str)), ("words", .tup (T.words.map .str)), ("rules", .tup (T.rules.map ruleV))])
theorem TalkAt.ex {h h' : PH} {t : Nat} {T : Tk} (a : TalkAt h t T) (x : Ex h h') : TalkAt h' t T := x _ _ a
theorem TalkAt.moods {h : PH} {t : Nat} {T : Tk} (a : TalkAt h t T) : lookF P h (.ref t) "moods" = some (.tup (T.moods.map .str)) := by
  have e := a
  unfold TalkAt at e
  simp only [lookF, e]
  rfl
theorem TalkAt.words {h : PH} {t : Nat} {T : Tk} (a : TalkAt h t T) : lookF P h (.ref t) "words" = some (.tup (T.words.map .str)) := by
  have e := a
  unfold TalkAt at e
  simp only [lookF, e]
  rfl
theorem TalkAt.rules {h : PH} {t : Nat} {T : Tk} (a : TalkAt h t T) : lookF P h (.ref t) "rules" = some (.tup (T.rules.map ruleV)) := by
  have e := a
  unfold TalkAt at e
  simp only [lookF, e]
  rfl
theorem TalkAt.m_rule_at {h : PH} {t : Nat} {T : Tk} (a : TalkAt h t T) : methOf P h (.ref t) "rule_at" = some "Talk.rule_at" := by
  have e := a
  unfold TalkAt at e
  simp only [methOf, e]
  rfl
theorem TalkAt.m_answer {h : PH} {t : Nat} {T : Tk} (a : TalkAt h t T) : methOf P h (.ref t) "answer" = some "Talk.answer" := by
  have e := a
  unfold TalkAt at e
  simp only [methOf, e]
  rfl
theorem TalkAt.m_eq {h : PH} {t : Nat} {T : Tk} (a : TalkAt h t T) : methOf P h (.ref t) strEqS = some "Talk.__eq__" := by
  have e := a
  unfold TalkAt at e
  simp only [methOf, e]
  rfl
theorem TalkAt.isi {h : PH} {t : Nat} {T : Tk} (a : TalkAt h t T) : isiAny P h (.ref t) ["Talk"] = some true := by
  have : kdOf h (.ref t) = some (.own "Talk") := by
    have e := a
    unfold TalkAt at e
    simp only [kdOf, e]
  unfold isiAny isiOne
  rw [this]
  rfl
theorem e_places_in : P.fn "places_in" = some d_places_in := by rfl
theorem q_places_in (n : Nat) {T : Tk} {t : Nat} {h : PH} (a : TalkAt h t T) (hm : T.moods.length ≤ 5) (hw : T.words.length ≤ 4) (c : Case) : Fn P (n + 2) "places_in" [.ref t, caseV c] h = .ok (.int (placesOf T.moods T.words c : Nat)) h := by
  rw [fn_eq e_places_in rfl]
  have hs : (saysOf T.words c).length ≤ 6 := by unfold saysOf; split <;> simp <;> omega
  have h1 := q_mulB (h := h) (a := T.moods.length) (b := (saysOf T.words c).length) (sm_big (by simp; omega)) (sm_big (by simp; omega))
  have hms : T.moods.length * (saysOf T.words c).length ≤ 5 * 6 := Nat.mul_le_mul hm hs
  have h2 := q_mulB (h := h) (a := (T.moods.length : Int) * (saysOf T.words c).length) (b := if dropOf c then 2 else 1) (sm_big (by rw [Int.natAbs_mul]; simp; omega)) (sm_big (by split <;> decide))
  simp only [placesOf]
  cases hx : dropOf c <;> rw [hx] at h2 <;> simp only [Bool.false_eq_true, if_false, if_true] at h2 ⊢ <;>
    simp [d_places_in, R.run, exs, ex, ev, a.moods, a.words, q_says_in n c T.words h (by omega), h1, q_is_dropping, hx, h2]
end K89
end

section
set_option Elab.async false
set_option linter.all false
set_option maxRecDepth 100000
set_option maxHeartbeats 1000000
namespace K89
open PySem L2 R
@[simp] theorem q_in2 {F : FF} {h : PH} (a : OS) (s : Str) : cmpE P F .isIn (vS a) (.tup [.non, .str s]) h = .ok (.bl (a.isNone || a == some s)) h := by
  have := q_in_vS (P := P) (F := F) (h := h) a [none, some s]
  rw [show ([none, some s] : List OS).map vS = [.non, .str s] from rfl] at this
  rw [this]
  congr 2
  simp only [List.contains_cons, List.contains_nil, Bool.or_false]
  cases a <;> simp
def vIdx (T : Tk) (c : Case) : PV := match T.rules.findIdx? (·.fits c) with
  | none => .non
  | some i => .int (i : Nat)
theorem e_rule_at : P.fn "Talk.rule_at" = some d_Talk_rule_at := by rfl
theorem mapIdx_split {α β : Type} {f : Nat → α → β} {l : List α} {pre post : List β} {x : β} (e : l.mapIdx f = pre ++ x :: post) : ∃ a, l[pre.length]? = some a ∧ x = f pre.length a := by
  have := congrArg (·[pre.length]?) e
  simp only [List.getElem?_mapIdx] at this
  rw [List.getElem?_append_right (Nat.le_refl _), Nat.sub_self] at this
  simp only [List.getElem?_cons_zero, Option.map_eq_some_iff] at this
  obtain ⟨a, h1, h2⟩ := this
  exact ⟨a, h1, h2.symm⟩
theorem findIdx_take {α : Type} {p : α → Bool} {l : List α} {i : Nat} {a : α} (h : (l.take i).find? p = none) (e : l[i]? = some a) : if p a = true then l.findIdx? p = some i else (l.take (i + 1)).find? p = none := by
  have hi := (List.getElem?_eq_some_iff.mp e).1
  have ha := (List.getElem?_eq_some_iff.mp e).2
  split
  · rename_i hp
    rw [List.findIdx?_eq_some_iff_getElem]
    refine ⟨hi, by rw [ha]; exact hp, fun j hj => ?_⟩
    have := List.find?_eq_none.mp h (l[j]'(by omega)) (by
      rw [List.mem_take_iff_getElem]
      exact ⟨j, by omega, rfl⟩)
    simpa using this
  · rename_i hp
    rw [List.take_add_one, e]
    rw [List.find?_append, h]
    simp [hp]
theorem q_rule_at (n : Nat) {T : Tk} {t : Nat} {h : PH} (a : TalkAt h t T) (c : Case) : Fn P (n + 1) "Talk.rule_at" [.ref t, .str c.1, .str c.2.1, .str c.2.2] h = .ok (vIdx T c) h := by
  refine sat_eq (sat_fn e_rule_at rfl ?_)
  simp only [d_Talk_rule_at, exs, ex, osat_bind, osat_out, evIt, ev, sat_bind, sat_of, sat_ok]
  simp only [List.map_cons, List.map_nil, List.length_cons, List.length_nil, List.cons_append, List.nil_append, List.getD_cons_zero, Option.some.injEq, exists_eq_left']
  refine ⟨_, a.rules, ?_⟩
  have sv : SeqV h (.tup (T.rules.map ruleV)) (T.rules.map ruleV) := .inl rfl
  obtain ⟨r, hr, hy⟩ := sv.srcN
  refine ⟨r, hr, ?_⟩
  refine for_all (l := (T.rules.map ruleV).mapIdx fun i x => .two (.int (i : Nat)) x) (Inv := fun pre s h' => h' = h ∧ (∃ x y, s = [some (.ref t), some (.str c.1), some (.str c.2.1), some (.str c.2.2), x, y]) ∧ (T.rules.take pre.length).find? (·.fits c) = none) ⟨rfl, ⟨_, _, rfl⟩, rfl⟩ (fun pre s h' I => by rw [I.1]; exact hy h (Ex.refl h)) ?_ ?_
  · rintro pre x post s h' hl ⟨rfl, ⟨u, v, rfl⟩, hn⟩
    obtain ⟨x0, h1, rfl⟩ := mapIdx_split hl
    rw [List.getElem?_map, Option.map_eq_some_iff] at h1
    obtain ⟨rl, h1, rfl⟩ := h1
    refine ⟨_, rfl, ?_⟩
    have hf := findIdx_take hn h1
    have e1 : rl.fits c = ((rl.ev == c.2.2) && ((rl.st.isNone || rl.st == some c.1) && (rl.mood.isNone || rl.mood == some c.2.1))) := by unfold Rule.fits; cases rl.st <;> cases rl.mood <;> simp
    cases b1 : (rl.ev == c.2.2) <;> cases b2 : (rl.st.isNone || rl.st == some c.1) <;> cases b3 : (rl.mood.isNone || rl.mood == some c.2.1) <;> rw [b1, b2, b3] at e1 <;> rw [e1] at hf <;>
      simp [exs, ex, tst, ev, ruleV, b1, b2, b3] <;> first | simpa using hf | (simp at hf; simp [vIdx, hf])
  · rintro s h' ⟨rfl, _, hn⟩
    have : T.rules.findIdx? (·.fits c) = none := by
      rw [List.findIdx?_eq_none_iff]
      rw [List.take_of_length_le (by simp), List.find?_eq_none] at hn
      intro x hx
      simpa using hn x hx
    simp [exs, ex, ev, vIdx, this]

def ansV (a : Str × OS × Bool) : PV := .tup [.str a.1, vS a.2.1, .bl a.2.2]
theorem e_answer : P.fn "Talk.answer" = some d_Talk_answer := by rfl
theorem idx_find {T : Tk} {c : Case} : (T.rules.findIdx? (·.fits c) = none ∧ T.rules.find? (·.fits c) = none) ∨ ∃ i r, T.rules.findIdx? (·.fits c) = some i ∧ T.rules[i]? = some r ∧ T.rules.find? (·.fits c) = some r := by
  cases e : T.rules.findIdx? (·.fits c) with
  | none =>
    refine .inl ⟨rfl, ?_⟩
    rw [List.findIdx?_eq_none_iff] at e
    rw [List.find?_eq_none]
    intro x hx
    simpa using e x hx
  | some i =>
    obtain ⟨hi, h1, h2⟩ := List.findIdx?_eq_some_iff_getElem.mp e
    refine .inr ⟨i, T.rules[i], rfl, List.getElem?_eq_getElem hi, ?_⟩
    rw [List.find?_eq_some_iff_getElem]
    exact ⟨h1, i, hi, rfl, fun j hj => by simpa using h2 j hj⟩
theorem q_answer (n : Nat) {T : Tk} {t : Nat} {h : PH} (a : TalkAt h t T) (c : Case) : Fn P (n + 2) "Talk.answer" [.ref t, .str c.1, .str c.2.1, .str c.2.2] h = .ok (ansV (answer T c)) h := by
  rw [fn_eq e_answer rfl]
  have q := q_rule_at n a c
  rcases idx_find (T := T) (c := c) with ⟨h1, h2⟩ | ⟨i, r, h1, h2, h3⟩
  · have e : vIdx T c = .non := by simp [vIdx, h1]
    rw [e] at q
    have e2 : answer T c = (c.2.1, none, true) := by simp [answer, h2]
    simp [d_Talk_answer, R.run, exs, ex, tst, ev, a.m_rule_at, q, e2, ansV]
  · have e : vIdx T c = .int (i : Nat) := by simp [vIdx, h1]
    rw [e] at q
    have e2 : answer T c = (r.later.getD c.2.1, r.say, r.hold) := by simp [answer, h3]
    have hx : atI (T.rules.map ruleV) (i : Int) = some (ruleV r) := atI_nat (by rw [List.getElem?_map, h2]; rfl)
    have e3 : ruleV r = .tup [vS r.st, vS r.mood, .str r.ev, vS r.later, vS r.say, .bl r.hold] := rfl
    cases hl : r.later <;> simp [d_Talk_answer, R.run, exs, ex, tst, ev, a.m_rule_at, q, e2, ansV, a.rules, hx, e3, asgV, setAll, hl]
theorem idx_vS (l : List OS) (a : OS) (h : a ∈ l) : (l.map vS).findIdx? (fun z => eqP z (vS a)) = some (l.idxOf a) := by
  rw [List.findIdx?_eq_some_iff_getElem]
  have hi : l.idxOf a < l.length := List.idxOf_lt_length_iff.mpr h
  refine ⟨by simpa using hi, by simp [eqP_vS], fun j hj => ?_⟩
  simp only [List.getElem_map, eqP_vS]
  have := List.not_of_lt_findIdx (p := (· == a)) (xs := l) hj
  simpa using this
theorem q_index_vS {h : PH} (l : List OS) (a : OS) (hm : a ∈ l) : doBm false .index (.tup (l.map vS)) [vS a] h = .ok (.int (l.idxOf a : Nat)) h := by
  simp only [doBm, doBmT, mIndex, idx_vS l a hm]
  simp
theorem q_index_str {h : PH} (l : List Str) (a : Str) (hm : a ∈ l) : doBm false .index (.tup (l.map .str)) [.str a] h = .ok (.int (l.idxOf a : Nat)) h := by
  have := q_index_vS (h := h) (l.map some) (some a) (List.mem_map_of_mem hm)
  rw [← map_vS] at this
  rw [show (PV.str a) = vS (some a) from rfl, this]
  congr 3
  clear this hm
  induction l with
  | nil => rfl
  | cons x r ih =>
    simp only [List.map_cons, List.idxOf_cons]
    by_cases hx : x = a
    · subst hx; simp
    · have h1 : (some x == some a) = false := by simpa using hx
      have h2 : (x == a) = false := by simpa using hx
      rw [h1, h2]
      simp [ih]
theorem e_place_of : P.fn "place_of" = some d_place_of := by rfl
theorem q_place_of (n : Nat) {T : Tk} {t : Nat} {h : PH} (a : TalkAt h t T) (V : Val T) {c : Case} (hc : c ∈ casesOf T.moods T.words) : Fn P (n + 3) "place_of" [.ref t, caseV c] h = .ok (.int (placeOf T c : Nat)) h := by
  rw [fn_eq e_place_of rfl]
  have hs : (saysOf T.words c).length ≤ 6 := by have := V.v.w4; unfold saysOf; split <;> simp <;> omega
  have q1 := q_answer n a c
  have q2 : Fn P (n + 2) "says_in" [caseV c, .tup (T.words.map .str)] h = _ := q_says_in (n + 1) c T.words h (by have := V.v.w4; omega)
  have q3 : Fn P (n + 2) "is_dropping" [caseV c] h = _ := q_is_dropping (n + 1) c h
  have q4 := q_index_str (h := h) T.moods (answer T c).1 (answer_mood V hc)
  have q5 := q_in_vS (P := P) (F := Fn P (n + 2)) (h := h) (answer T c).2.1 (saysOf T.words c)
  have tl := told_lt T.words c (answer T c).2.1 (answer T c).2.2
  have hm := V.v.m5
  have tl2 : toldOf T.words c (answer T c).2.1 (answer T c).2.2 ≤ 12 := by
    have : (saysOf T.words c).length * (if dropOf c = true then 2 else 1) ≤ 6 * 2 := Nat.mul_le_mul hs (by split <;> decide)
    omega
  have q6 := q_mulB (h := h) (a := T.moods.length) (b := (toldOf T.words c (answer T c).2.1 (answer T c).2.2 : Nat)) (sm_big (by simp; omega)) (sm_big (by simp; omega))
  have ca : seqOf h (caseV c) = some [.str c.1, .str c.2.1, .str c.2.2] := rfl
  have bk : ∀ l, bmK .index h (.tup l) = some false := fun _ => rfl
  have av : ∀ A, ansV A = .tup [.str A.1, vS A.2.1, .bl A.2.2] := fun _ => rfl
  have lF : ∀ x, ev P (Fn P (n + 2)) (.blt .len [x]) = fun sl h => (ev P (Fn P (n + 2)) (.blt .len [x]) sl h) := fun _ => rfl
  simp only [placeOf]
  simp only [toldOf] at q6
  simp only [toldOf]
  generalize answer T c = A at *
  obtain ⟨lt, sy, hd⟩ := A
  simp only at *
  by_cases hin : sy ∈ saysOf T.words c
  · have q7 := q_index_vS (h := h) (saysOf T.words c) sy hin
    have q5b : (saysOf T.words c).contains sy = true := by simpa using hin
    rw [q5b] at q5
    rw [if_pos hin] at q6 ⊢
    cases hdr : dropOf c <;> cases hd <;> rw [hdr] at q6 q3 <;> simp only [Bool.false_and, Bool.true_and, Bool.not_true, Bool.not_false, Bool.false_eq_true, if_false, if_true, Nat.add_zero] at q6 ⊢ <;>
      simp [d_place_of, R.run, exs, ex, tst, ev, a.m_answer, ca, q1, av, asgV, setAll, a.words, a.moods, q2, q5, q7, bk, q3, q4, q6] <;> (simp at q6; simp [q6])
  · have q5b : (saysOf T.words c).contains sy = false := by simpa using hin
    rw [q5b] at q5
    rw [if_neg hin] at q6 ⊢
    cases hdr : dropOf c <;> cases hd <;> rw [hdr] at q6 q3 <;> simp only [Bool.false_and, Bool.true_and, Bool.not_true, Bool.not_false, Bool.false_eq_true, if_false, if_true, Nat.add_zero, Nat.zero_add] at q6 ⊢ <;>
      simp [d_place_of, R.run, exs, ex, tst, ev, a.m_answer, ca, q1, av, asgV, setAll, a.words, a.moods, q2, q5, bk, q3, q4, q6] <;> (simp at q6; simp [q6])
end K89
end

section
set_option Elab.async false
set_option linter.all false
set_option maxRecDepth 100000
set_option maxHeartbeats 1000000
namespace K89
open PySem L2 R
theorem flatMap_map' {α β γ : Type} (f : α → β) (g : β → List γ) (l : List α) : (l.map f).flatMap g = l.flatMap fun a => g (f a) := by
  induction l with
  | nil => rfl
  | cons a l ih => simp [ih]
theorem e_all_cases : P.fn "all_cases" = some d_all_cases := by rfl
theorem q_all_cases (n : Nat) {T : Tk} {t : Nat} {h : PH} (a : TalkAt h t T) (hm : T.moods.length ≤ 5) (hw : T.words.length ≤ 4) : Fn P (n + 1) "all_cases" [.ref t] h = .ok (.ref h.length) (h ++ [.lst ((casesOf T.moods T.words).map caseV)]) := by
  refine sat_eq (sat_fn e_all_cases rfl ?_)
  have z : T.words.length + 1 + 1 ≤ sizeL := by unfold sizeL; omega
  have em : ((evs T.words).map PV.str) = .str "beat" :: .str "give" :: T.words.map .str := rfl
  have le : (evs T.words).length ≤ 6 := by simp [evs]; omega
  simp [d_all_cases, exs, ex, ev, evIt, a.words, z, newF]
  rw [← em]
  refine eq_sat (v := (casesOf T.moods T.words).map caseV) (h := h) ?_ (by simp)
  have il : ∀ {α : Type} (l : List α) (f : α → PV), Yields (.its (l.map f)) ((l.map f).map .one) h := fun l f => yields_its _ _
  refine (cl_flat (g := fun i => match i with
    | .one (.str s) => (T.moods.flatMap fun m => (evs T.words).map fun e => caseV (s, m, e))
    | _ => []) [] (il statuses .str) (fun i hi => ?_) ?_).trans ?_
  · rw [List.mem_map] at hi
    obtain ⟨e, he, rfl⟩ := hi
    rw [List.mem_map] at he
    obtain ⟨s, _, rfl⟩ := he
    refine ⟨_, rfl, rfl, fun acc hz => ?_⟩
    simp only at hz ⊢
    simp [evC, evIt, a.moods, wipeS]
    refine (cl_flat (g := fun i => match i with
      | .one (.str m) => ((evs T.words).map fun e => caseV (s, m, e))
      | _ => []) acc (il T.moods .str) (fun i hi => ?_) ?_).trans ?_
    · rw [List.mem_map] at hi
      obtain ⟨e, he, rfl⟩ := hi
      rw [List.mem_map] at he
      obtain ⟨m, _, rfl⟩ := he
      refine ⟨_, rfl, rfl, fun acc hz => ?_⟩
      simp only at hz ⊢
      simp [evC, evIt, wipeS]
      refine (cl_flat (g := fun i => match i with
        | .one (.str e) => [caseV (s, m, e)]
        | _ => []) acc (il (evs T.words) .str) (fun i hi => ?_) ?_).trans ?_
      · rw [List.mem_map] at hi
        obtain ⟨e, he, rfl⟩ := hi
        rw [List.mem_map] at he
        obtain ⟨m, _, rfl⟩ := he
        refine ⟨_, rfl, rfl, fun acc hz => ?_⟩
        simp only [List.length_singleton] at hz ⊢
        simp [evC, ev, wipeS, caseV]
        omega
      · rw [flatMap_map', flatMap_map', length_flatMap_const (k := 1) (fun _ _ => rfl)]
        simpa using hz
      · rw [flatMap_map', flatMap_map']
        congr 2
        induction evs T.words with
        | nil => rfl
        | cons x l ih => rw [List.flatMap_cons, ih]; rfl
    · rw [flatMap_map', flatMap_map']
      exact hz
    · rw [flatMap_map', flatMap_map']
  · rw [flatMap_map', flatMap_map']
    have := cases_length T.moods T.words
    have h2 := Nat.mul_le_mul hm (show T.words.length + 2 ≤ 6 by omega)
    have e : (statuses.flatMap fun s => T.moods.flatMap fun m => (evs T.words).map fun e => caseV (s, m, e)) = (casesOf T.moods T.words).map caseV := by
      unfold casesOf
      simp [List.map_flatMap]
      rfl
    simp only at e ⊢
    rw [e]
    unfold sizeL
    simp
    omega
  · rw [flatMap_map', flatMap_map']
    congr 1
    unfold casesOf
    simp [List.map_flatMap]
    rfl
end K89
end

section
set_option Elab.async false
set_option linter.all false
set_option maxRecDepth 100000
set_option maxHeartbeats 1000000
namespace K89
open PySem L2 R
theorem numL_snoc (l : List (Nat × Nat)) (p q : Nat) : numL (l ++ [(p, q)]) = numL l + prodL (l.map (·.2)) * p := by
  induction l with
  | nil => simp [numL, prodL]
  | cons x l ih =>
    obtain ⟨a, b⟩ := x
    simp only [List.cons_append, numL, ih, List.map_cons, prodL, Nat.mul_add, Nat.mul_assoc, Nat.add_assoc]
theorem prodL_snoc (l : List Nat) (q : Nat) : prodL (l ++ [q]) = prodL l * q := by
  induction l with
  | nil => simp [prodL]
  | cons x l ih => simp only [List.cons_append, prodL, ih, Nat.mul_assoc]
theorem prodL_le {b : Nat} (hb : 0 < b) : ∀ {l : List Nat} {k : Nat}, (∀ q ∈ l, q ≤ b) → l.length ≤ k → prodL l ≤ b ^ k
  | [], k, _, _ => Nat.pow_pos hb
  | q :: r, 0, _, h => by simp at h
  | q :: r, k + 1, hq, h => by
    have := prodL_le hb (l := r) (k := k) (fun x hx => hq x (List.mem_cons_of_mem _ hx)) (by simpa using h)
    rw [Nat.pow_succ, Nat.mul_comm]
    exact Nat.mul_le_mul (hq q List.mem_cons_self) this
theorem pow_big {k : Nat} (h : k ≤ 600) : 60 ^ k ≤ Big := by
  refine Nat.le_trans (Nat.pow_le_pow_left (by decide : 60 ≤ 2 ^ 6) k) ?_
  rw [← Nat.pow_mul]
  unfold Big
  exact Nat.pow_le_pow_right (by decide) (by omega)
theorem says_le {ms ws : List Str} (v : ValM ms ws) (c : Case) : (saysOf ws c).length ≤ 6 := by have := v.w4; unfold saysOf; split <;> simp <;> omega
theorem places_le {ms ws : List Str} (v : ValM ms ws) (c : Case) : placesOf ms ws c ≤ 60 := by
  unfold placesOf
  have h1 := Nat.mul_le_mul v.m5 (says_le v c)
  have : ms.length * (saysOf ws c).length * (if dropOf c = true then 2 else 1) ≤ 5 * 6 * 2 := Nat.mul_le_mul h1 (by split <;> decide)
  omega
theorem qs_le {ms ws : List Str} (v : ValM ms ws) (l : List Case) : ∀ q ∈ l.map (placesOf ms ws), q ≤ 60 := fun q hq => by
  obtain ⟨c, _, rfl⟩ := List.mem_map.mp hq
  exact places_le v c
theorem many_le {ms ws : List Str} (v : ValM ms ws) : many ms ws ≤ 60 ^ 90 := prodL_le (by decide) (qs_le v _) (by unfold qs; rw [List.length_map]; exact cases_le v)
theorem split_map {α β : Type} {f : α → β} {l : List α} {pre post : List β} {x : β} (e : l.map f = pre ++ x :: post) : ∃ p a q, l = p ++ a :: q ∧ pre = p.map f ∧ x = f a ∧ post = q.map f := by
  obtain ⟨p, r, rfl, h1, h2⟩ := List.map_eq_append_iff.mp e
  obtain ⟨a, q, rfl, h3, h4⟩ := List.map_eq_cons_iff.mp h2
  exact ⟨p, a, q, rfl, h1.symm, h3.symm, h4.symm⟩
theorem map_inj' {α β : Type} {f : α → β} (hf : ∀ a b, f a = f b → a = b) : ∀ {l m : List α}, l.map f = m.map f → l = m
  | [], [], _ => rfl
  | [], _ :: _, h => by simp at h
  | _ :: _, [], h => by simp at h
  | a :: l, b :: m, h => by
    simp only [List.map_cons, List.cons.injEq] at h
    rw [hf a b h.1, map_inj' hf h.2]
theorem itm_inj {a b : Case} (h : Itm.one (caseV a) = Itm.one (caseV b)) : a = b := by
  obtain ⟨a1, a2, a3⟩ := a
  obtain ⟨b1, b2, b3⟩ := b
  simp [caseV] at h
  simp [h]
theorem e_number_in : P.fn "number_in" = some d_number_in := by rfl
theorem q_number_in (n : Nat) {T : Tk} {t : Nat} {h : PH} (a : TalkAt h t T) (V : Val T) : Fn P (n + 4) "number_in" [.ref t] h = .ok (.int (number T : Nat)) (h ++ [.lst ((casesOf T.moods T.words).map caseV)]) := by
  refine sat_eq (sat_fn e_number_in rfl ?_)
  have q1 : Fn P (n + 3) "all_cases" [.ref t] h = _ := q_all_cases (n + 2) a V.v.m5 V.v.w4
  have a1 : TalkAt (h ++ [.lst ((casesOf T.moods T.words).map caseV)]) t T := a.ex (Ex.app _ _)
  have sr : srcOf (h ++ [.lst ((casesOf T.moods T.words).map caseV)]) (.ref h.length) = some (.ref h.length) := src_ref (get_new _ _)
  have hy : Yields (.ref h.length) (((casesOf T.moods T.words).map caseV).map .one) (h ++ [.lst ((casesOf T.moods T.words).map caseV)]) := yields_ref (get_new _ _)
  simp [d_number_in, exs, ex, ev, evIt, asgV, setAll, q1, sr]
  refine for_all (l := ((casesOf T.moods T.words).map caseV).map .one) (Inv := fun pre s h' => h' = h ++ [.lst ((casesOf T.moods T.words).map caseV)] ∧ ∃ cs x, pre = (cs.map caseV).map .one ∧ s = [some (.ref t), x, some (.int (numL (cs.map fun c => (placeOf T c, placesOf T.moods T.words c)) : Nat)), some (.int (prodL (cs.map (placesOf T.moods T.words)) : Nat))])
    ⟨rfl, [], _, rfl, rfl⟩ (fun pre s h' I => by rw [I.1]; exact hy) ?_ ?_
  · rintro pre x post s h' hl ⟨rfl, cs, y, rfl, rfl⟩
    rw [List.map_map] at hl
    obtain ⟨p, c, r, hc, h1, rfl, rfl⟩ := split_map hl
    rw [List.map_map] at h1
    have := map_inj' (f := Itm.one ∘ caseV) (fun a b => itm_inj) h1
    subst this
    have hm : c ∈ casesOf T.moods T.words := by rw [hc]; simp
    refine ⟨_, rfl, ?_⟩
    have q2 : Fn P (n + 3) "place_of" [.ref t, caseV c] _ = _ := q_place_of n a1 V hm
    have q3 : Fn P (n + 3) "places_in" [.ref t, caseV c] _ = _ := q_places_in (n + 1) a1 V.v.m5 V.v.w4 c
    have lt := place_lt V hm
    have le := places_le V.v c
    have lp : prodL (cs.map (placesOf T.moods T.words)) ≤ 60 ^ 90 := prodL_le (by decide) (qs_le V.v _) (by
      have := cases_le V.v
      rw [hc, List.length_append, List.length_cons] at this
      rw [List.length_map]; omega)
    have lpB := Nat.le_trans lp (pow_big (by decide))
    have m1 := q_mulB (h := h ++ [.lst ((casesOf T.moods T.words).map caseV)]) (a := (prodL (cs.map (placesOf T.moods T.words)) : Nat)) (b := (placeOf T c : Nat)) (by simpa using lpB) (sm_big (by simp; omega))
    have m2 := q_mulB (h := h ++ [.lst ((casesOf T.moods T.words).map caseV)]) (a := (prodL (cs.map (placesOf T.moods T.words)) : Nat)) (b := (placesOf T.moods T.words c : Nat)) (by simpa using lpB) (sm_big (by simp; omega))
    simp [exs, ex, ev, q2, q3, m1, m2]
    refine ⟨cs ++ [c], by simp, ?_, ?_⟩
    · simp [numL_snoc]
      rfl
    · simp [prodL_snoc]
  · rintro s h' ⟨rfl, cs, x, h1, rfl⟩
    rw [List.map_map, List.map_map] at h1
    have := map_inj' (f := Itm.one ∘ caseV) (fun a b => itm_inj) h1
    subst this
    simp [exs, ex, ev, number, pairs]
end K89
end

section
set_option Elab.async false
set_option linter.all false
set_option maxRecDepth 100000
set_option maxHeartbeats 1000000
namespace K89
open PySem L2 R
theorem e_many_in : P.fn "many_in" = some d_many_in := by rfl
theorem q_many_in (n : Nat) {T : Tk} {t : Nat} {h : PH} (a : TalkAt h t T) (v : ValM T.moods T.words) : Fn P (n + 3) "many_in" [.ref t] h = .ok (.int (many T.moods T.words : Nat)) (h ++ [.lst ((casesOf T.moods T.words).map caseV)]) := by
  refine sat_eq (sat_fn e_many_in rfl ?_)
  have q1 : Fn P (n + 2) "all_cases" [.ref t] h = _ := q_all_cases (n + 1) a v.m5 v.w4
  have a1 : TalkAt (h ++ [.lst ((casesOf T.moods T.words).map caseV)]) t T := a.ex (Ex.app _ _)
  have sr : srcOf (h ++ [.lst ((casesOf T.moods T.words).map caseV)]) (.ref h.length) = some (.ref h.length) := src_ref (get_new _ _)
  have hy : Yields (.ref h.length) (((casesOf T.moods T.words).map caseV).map .one) (h ++ [.lst ((casesOf T.moods T.words).map caseV)]) := yields_ref (get_new _ _)
  simp [d_many_in, exs, ex, ev, evIt, q1, sr]
  refine for_all (l := ((casesOf T.moods T.words).map caseV).map .one) (Inv := fun pre s h' => h' = h ++ [.lst ((casesOf T.moods T.words).map caseV)] ∧ ∃ cs x, pre = (cs.map caseV).map .one ∧ s = [some (.ref t), some (.int (prodL (cs.map (placesOf T.moods T.words)) : Nat)), x])
    ⟨rfl, [], _, rfl, rfl⟩ (fun pre s h' I => by rw [I.1]; exact hy) ?_ ?_
  · rintro pre x post s h' hl ⟨rfl, cs, y, rfl, rfl⟩
    rw [List.map_map] at hl
    obtain ⟨p, c, r, hc, h1, rfl, rfl⟩ := split_map hl
    rw [List.map_map] at h1
    have := map_inj' (f := Itm.one ∘ caseV) (fun a b => itm_inj) h1
    subst this
    refine ⟨_, rfl, ?_⟩
    have q3 : Fn P (n + 2) "places_in" [.ref t, caseV c] _ = _ := q_places_in n a1 v.m5 v.w4 c
    have le := places_le v c
    have lp : prodL (cs.map (placesOf T.moods T.words)) ≤ 60 ^ 90 := prodL_le (by decide) (qs_le v _) (by
      have := cases_le v
      rw [hc, List.length_append, List.length_cons] at this
      rw [List.length_map]; omega)
    have lpB := Nat.le_trans lp (pow_big (by decide))
    have m2 := q_mulB (h := h ++ [.lst ((casesOf T.moods T.words).map caseV)]) (a := (prodL (cs.map (placesOf T.moods T.words)) : Nat)) (b := (placesOf T.moods T.words c : Nat)) (by simpa using lpB) (sm_big (by simp; omega))
    simp [exs, ex, ev, q3, m2]
    exact ⟨cs ++ [c], by simp, by simp [prodL_snoc]⟩
  · rintro s h' ⟨rfl, cs, x, h1, rfl⟩
    rw [List.map_map, List.map_map] at h1
    have := map_inj' (f := Itm.one ∘ caseV) (fun a b => itm_inj) h1
    subst this
    simp [exs, ex, ev, many, qs]
def oRule : Option Rule → PV
  | none => .non
  | some r => ruleV r
theorem e_rule_by : P.fn "rule_by" = some d_rule_by := by rfl
theorem q_rule_by (n : Nat) {T : Tk} {t : Nat} {h : PH} (a : TalkAt h t T) (v : ValM T.moods T.words) (c : Case) (p : Nat) (hp : p ≤ 1000) : Fn P (n + 2) "rule_by" [.ref t, caseV c, .int (p : Nat)] h = .ok (oRule (ruleBy T.moods T.words c p)) h := by
  rw [fn_eq e_rule_by rfl]
  have hl : 0 < T.moods.length := v.m1
  have hm5 := v.m5
  have hs0 := says_pos T.words c
  have hs6 := says_le v c
  have q2 : Fn P (n + 1) "says_in" [caseV c, .tup (T.words.map .str)] h = _ := q_says_in n c T.words h (by have := v.w4; omega)
  have m1 := q_mod_int (h := h) (a := (p : Int)) (b := (T.moods.length : Int)) (by omega)
  have f1 := q_fdivB (h := h) (a := (p : Int)) (b := (T.moods.length : Int)) (by omega) (sm_big (by simp; omega))
  have m2 := q_mod_int (h := h) (a := ((p : Int) / (T.moods.length : Int))) (b := ((saysOf T.words c).length : Int)) (by omega)
  have i1 : atI (T.moods.map PV.str) ((p : Int) % (T.moods.length : Int)) = some (.str (T.moods.getD (p % T.moods.length) c.2.1)) := by
    have hlt : p % T.moods.length < T.moods.length := Nat.mod_lt _ hl
    rw [← Int.natCast_emod]
    refine atI_nat ?_
    rw [List.getElem?_map, List.getElem?_eq_getElem hlt, List.getD_eq_getElem?_getD, List.getElem?_eq_getElem hlt]
    rfl
  have i2 : atI ((saysOf T.words c).map vS) ((p : Int) / (T.moods.length : Int) % ((saysOf T.words c).length : Int)) = some (vS ((saysOf T.words c).getD (p / T.moods.length % (saysOf T.words c).length) none)) := by
    have hlt : p / T.moods.length % (saysOf T.words c).length < (saysOf T.words c).length := Nat.mod_lt _ hs0
    rw [← Int.natCast_ediv, ← Int.natCast_emod]
    refine atI_nat ?_
    rw [List.getElem?_map, List.getElem?_eq_getElem hlt, List.getD_eq_getElem?_getD, List.getElem?_eq_getElem hlt]
    rfl
  have l1 : decide ((p : Int) / (T.moods.length : Int) < ((saysOf T.words c).length : Int)) = decide (p / T.moods.length < (saysOf T.words c).length) := by
    rw [← Int.natCast_ediv]
    simp only [Int.ofNat_lt]
  have ca : caseV c = .tup [.str c.1, .str c.2.1, .str c.2.2] := rfl
  simp only [ruleBy]
  generalize T.moods.getD (p % T.moods.length) c.2.1 = lt at i1 ⊢
  generalize (saysOf T.words c).getD (p / T.moods.length % (saysOf T.words c).length) none = sy at i2 ⊢
  simp [d_rule_by, R.run, exs, ex, tst, ev, asgV, setAll, ca, a.words, a.moods]
  rw [← ca]
  simp [q2, m1, i1, f1, m2, i2, l1, a.moods, a.words, exs, ex, tst, ev, asgV, setAll]
  cases b1 : (lt == c.2.1) <;> cases sy <;> cases b3 : decide (p / T.moods.length < (saysOf T.words c).length) <;> (
    have b1' := b1
    have b3' := b3
    simp only [beq_iff_eq, beq_eq_false_iff_ne, ne_eq] at b1'
    simp only [decide_eq_true_eq, decide_eq_false_iff_not] at b3'
    simp [b1, b1', b3, b3', oRule, ruleV, exs, ex, tst, ev, Option.isNone])
end K89
end

section
set_option Elab.async false
set_option linter.all false
set_option maxRecDepth 100000
set_option maxHeartbeats 1000000
namespace K89
open PySem L2 R
theorem e_is_listed : P.fn "is_listed" = some d_is_listed := by rfl
theorem q_is_listed (n : Nat) {h : PH} {v : PV} {l : List PV} (s : SeqV h v l) : Fn P (n + 1) "is_listed" [v] h = .ok (.bl true) h := by
  rw [fn_eq e_is_listed rfl]
  simp [d_is_listed, R.run, exs, ex, ev, isi_seq s]
def letters : Str := "abcdefghijklmnopqrstuvwxyz"
structure Nm (s : Str) : Prop where
  l1 : 1 ≤ s.length
  l8 : s.length ≤ 8
  ab : ∀ c ∈ s.cps.toList, c ∈ letters.cps.toList
theorem e_is_name : P.fn "is_name" = some d_is_name := by rfl
theorem q_is_name (n : Nat) {h : PH} {s : Str} (N : Nm s) : Fn P (n + 1) "is_name" [.str s] h = .ok (.bl true) h := by
  refine sat_eq (sat_fn e_is_name rfl ?_)
  have l1 := N.l1
  have l8 := N.l8
  have ln : doBlt .len [.str s] h = .ok (.int s.length) h := by
    simp only [doBlt, on1, bLen]
    rw [if_pos (by unfold sizeL; omega)]
  have c1 : decide ((1 : Int) ≤ (s.length : Int)) = true := by simpa using (by omega : (1 : Int) ≤ (s.length : Int))
  have c2 : decide ((s.length : Int) ≤ 8) = true := by simpa using (by omega : (s.length : Int) ≤ 8)
  simp [d_is_name, exs, ex, ev, evIt, isi_str, ln, c1, c2]
  refine eq_sat (v := s.cps.toList.map fun _ => PV.bl true) (h := h) ?_ ?_
  · refine (cl_flat (g := fun _ => [.bl true]) [] (yields_its _ h) (fun i hi => ?_) ?_).trans ?_
    · rw [List.map_map, List.mem_map] at hi
      obtain ⟨c, hc, rfl⟩ := hi
      refine ⟨_, rfl, rfl, fun acc hz => ?_⟩
      have hc2 := N.ab c hc
      have e : doCmp .isIn (.str ⟨#[c]⟩) (.str letters) h = .ok (.bl true) h := by
        simp only [doCmp]
        rw [if_pos (show (⟨#[c]⟩ : Str).length = 1 from rfl)]
        rw [show (#[c] : Array Nat).getD 0 0 = c from rfl, decide_eq_true hc2]
      simp only [List.length_singleton] at hz
      have e2 : cmpE P (Fn P n) .isIn (.str ⟨#[c]⟩) (.str "abcdefghijklmnopqrstuvwxyz") h = .ok (.bl true) h := e
      simp [evC, ev, wipeS, e2]
      omega
    · rw [length_flatMap_const (k := 1) (fun _ _ => rfl)]
      have : s.cps.toList.length = s.length := by simp [Str.length]
      simp [this]
      unfold sizeL
      omega
    · congr 1
      rw [List.nil_append, flatMap_map', flatMap_map']
      induction s.cps.toList with
      | nil => rfl
      | cons x l ih => rw [List.flatMap_cons, ih]; rfl
  · have := q_all_fro (h := h) (s.cps.toList.map fun _ => true)
    rw [List.map_map] at this
    have e : (PV.bl ∘ fun _ : Nat => true) = fun _ => PV.bl true := rfl
    rw [e] at this
    simp [newF, this]
theorem e_copied : P.fn "copied" = some d_copied := by rfl
theorem q_copied_str (n : Nat) (s : Str) (h : PH) : Fn P (n + 1) "copied" [.str s] h = .ok (.str s) h := by
  rw [fn_eq e_copied rfl]
  simp [d_copied, R.run, exs, ex, tst, ev, isi_str_lt, isi_str_d]
theorem q_copied_vS (n : Nat) (s : OS) (h : PH) : Fn P (n + 1) "copied" [vS s] h = .ok (vS s) h := by
  rw [fn_eq e_copied rfl]
  cases s <;> simp [d_copied, R.run, exs, ex, tst, ev, isi_str_lt, isi_str_d, isi_non_lt, isi_non_d]
theorem q_copied_bl (n : Nat) (b : Bool) (h : PH) : Fn P (n + 1) "copied" [.bl b] h = .ok (.bl b) h := by
  rw [fn_eq e_copied rfl]
  simp [d_copied, R.run, exs, ex, tst, ev, isi_bl_lt, isi_bl_d]
theorem q_copied_seq (n : Nat) {h : PH} {v : PV} {l : List PV} (s : SeqV h v l) (hz : l.length ≤ sizeL) (hc : ∀ x ∈ l, Fn P n "copied" [x] h = .ok x h) : Fn P (n + 1) "copied" [v] h = .ok (.tup l) h := by
  refine sat_eq (sat_fn e_copied rfl ?_)
  obtain ⟨r, hr, hy⟩ := s.src
  simp [d_copied, exs, ex, tst, ev, evIt, isi_seq s, hr]
  refine eq_sat (v := l) (h := h) ?_ ?_
  · refine (cl_flat (g := fun i => match i with
      | .one x => [x]
      | _ => []) [] (hy h (Ex.refl h)) (fun i hi => ?_) ?_).trans ?_
    · rw [List.mem_map] at hi
      obtain ⟨x, hx, rfl⟩ := hi
      refine ⟨_, rfl, rfl, fun acc hz => ?_⟩
      simp only [List.length_singleton] at hz
      simp [evC, ev, wipeS, hc x hx]
      omega
    · rw [flatMap_map', length_flatMap_const (k := 1) (fun _ _ => rfl)]
      simpa using hz
    · rw [flatMap_map', List.nil_append]
      congr 1
      clear hz hc hy s
      induction l with
      | nil => rfl
      | cons x l ih => rw [List.flatMap_cons, ih]; rfl
  · simp [newF]
theorem q_copied_strs (n : Nat) {h : PH} {v : PV} {l : List Str} (s : SeqV h v (l.map .str)) (hz : l.length ≤ sizeL) : Fn P (n + 2) "copied" [v] h = .ok (.tup (l.map .str)) h :=
  q_copied_seq (n + 1) s (by simpa using hz) fun x hx => by
    obtain ⟨y, _, rfl⟩ := List.mem_map.mp hx
    exact q_copied_str n y h
theorem q_copied_rule (n : Nat) (r : Rule) (h : PH) : Fn P (n + 2) "copied" [ruleV r] h = .ok (ruleV r) h :=
  q_copied_seq (n + 1) (.inl rfl) (by simp) fun x hx => by
    simp only [List.mem_cons, List.not_mem_nil, or_false] at hx
    rcases hx with rfl | rfl | rfl | rfl | rfl | rfl
    · exact q_copied_vS n _ h
    · exact q_copied_vS n _ h
    · exact q_copied_str n _ h
    · exact q_copied_vS n _ h
    · exact q_copied_vS n _ h
    · exact q_copied_bl n _ h
theorem q_copied_rules (n : Nat) {h : PH} {v : PV} {l : List Rule} (s : SeqV h v (l.map ruleV)) (hz : l.length ≤ sizeL) : Fn P (n + 3) "copied" [v] h = .ok (.tup (l.map ruleV)) h :=
  q_copied_seq (n + 2) s (by simpa using hz) fun x hx => by
    obtain ⟨y, _, rfl⟩ := List.mem_map.mp hx
    exact q_copied_rule n y h
end K89
end

section
set_option Elab.async false
set_option linter.all false
set_option maxRecDepth 100000
set_option maxHeartbeats 2000000
namespace K89
open PySem L2 R
theorem q_notin_vS {F : FF} {h : PH} (a : OS) (l : List OS) : cmpE P F .notIn (vS a) (.tup (l.map vS)) h = .ok (.bl (!l.contains a)) h := by
  have h1 : (l.map vS).all isFlat = true := by simp
  have h2 := q_in_vS (P := P) (F := F) (h := h) a l
  cases a <;> simp only [cmpE, doCmp, vS_none, vS_some, seq_tup, h1, flat_non, flat_str, Bool.and_self, if_true] at h2 ⊢ <;> simp only [Rs.ok.injEq, PV.bl.injEq, and_true] at h2 <;> rw [h2]
theorem e_is_rule : P.fn "is_rule" = some d_is_rule := by rfl
/-- all(.. for one in ..) over things that are so -/
theorem q_alls {n : Nat} {h : PH} {sl : Sl} {i : Nat} {elt : E} {l : List PV} (hl : l.length ≤ 1000)
    (he : ∀ x ∈ l, ev P (Fn P n) elt ((wipeS sl [i]).set i (some x)) h = .ok (.bl true) h) :
    sat (match (Src.its l).len h with
      | some k => clGo (.one i) [i] (fun s h => Rs.ok true h) (fun s h acc => evC P (Fn P n) (.emit elt) s h acc) (.its l) sl k 0 [] h
      | none => .bad) fun a h' => a = (l.map fun _ => PV.bl true) ∧ h' = h := by
  refine eq_sat (v := l.map fun _ => PV.bl true) (h := h) ?_ ⟨rfl, rfl⟩
  refine (cl_flat (g := fun _ => [.bl true]) [] (yields_its _ h) (fun it hi => ?_) ?_).trans ?_
  · rw [List.mem_map] at hi
    obtain ⟨c, hc, rfl⟩ := hi
    refine ⟨_, rfl, rfl, fun acc hz => ?_⟩
    simp only [List.length_singleton] at hz
    simp only [evC, asgV, he c hc, Rs.bind_ok]
    rw [if_pos (by omega)]
  · rw [length_flatMap_const (k := 1) (fun _ _ => rfl)]
    simp
    unfold sizeL
    omega
  · congr 1
    rw [List.nil_append, flatMap_map']
    clear hl he
    induction l with
    | nil => rfl
    | cons x l ih => rw [List.flatMap_cons, ih]; rfl
theorem all_true {h : PH} (l : List PV) : doBlt .all [.fro (l.map fun _ => PV.bl true)] h = .ok (.bl true) h := by
  have := q_all_fro (h := h) (l.map fun _ => true)
  rw [List.map_map] at this
  rw [show (PV.bl ∘ fun _ : PV => true) = fun _ => PV.bl true from rfl] at this
  rw [this]
  simp
theorem isi_vS (s : Str) (h : PH) : isiAny P h (vS (some s)) ["str"] = some true := isi_str s h
theorem q_lcm {n : Nat} {h : PH} {sl : Sl} {i : Nat} {it elt : E} {l : List PV} (hl : l.length ≤ 1000) (hit : evIt P (Fn P n) it sl h = .ok (.its l) h)
    (he : ∀ x ∈ l, ev P (Fn P n) elt ((wipeS sl [i]).set i (some x)) h = .ok (.bl true) h) : ev P (Fn P n) (.lcm true (.one i) [i] it (.con (.bl true)) (.emit elt)) sl h = .ok (.fro (l.map fun _ => PV.bl true)) h := by
  refine sat_eq ?_
  simp only [ev, hit, Rs.bind_ok, sat_bind, sat_noEr, tru_bl, rs_of_some]
  refine sat_mono (q_alls hl he) fun a h' ⟨e1, e2⟩ => ?_
  subst e1 e2
  exact ⟨rfl, rfl⟩
theorem q_is_rule (n : Nat) {h : PH} {mv wv : PV} {ms ws : List Str} (sm : SeqV h mv (ms.map .str)) (sw : SeqV h wv (ws.map .str)) (hw : ws.length ≤ 1000) {r : Rule} (ok : RuleOk ms ws r) : Fn P (n + 2) "is_rule" [ruleV r, mv, wv] h = .ok (.bl true) h := by
  refine sat_eq (sat_fn e_is_rule rfl ?_)
  have q0 : Fn P (n + 1) "is_listed" [ruleV r] h = _ := q_is_listed n (.inl rfl)
  have er : ruleV r = .tup [vS r.st, vS r.mood, .str r.ev, vS r.later, vS r.say, .bl r.hold] := rfl
  have e1 : ev P (Fn P (n + 1)) (.lcm true (.one 3) [3] (.itE (.tup [(.ix (.var 0) (.con (.int 0))), (.ix (.var 0) (.con (.int 1))), (.ix (.var 0) (.con (.int 3))), (.ix (.var 0) (.con (.int 4)))])) (.con (.bl true)) (.emit (.or (.cmp .is (.var 3) (.con .non)) (.isi (.var 3) ["str"]))))
      [some (ruleV r), some mv, some wv, none] h = .ok (.fro ([vS r.st, vS r.mood, vS r.later, vS r.say].map fun _ => PV.bl true)) h := by
    refine q_lcm (by simp) (by simp [evIt, ev, er]) fun x hx => ?_
    have : ∃ o : OS, x = vS o := by
      simp only [List.mem_cons, List.not_mem_nil, or_false] at hx
      rcases hx with rfl | rfl | rfl | rfl <;> exact ⟨_, rfl⟩
    obtain ⟨o, rfl⟩ := this
    cases o <;> simp [ev, wipeS, isi_str]
  have e2 : ev P (Fn P (n + 1)) (.lcm true (.one 3) [3] (.itE (.tup [(.ix (.var 0) (.con (.int 1))), (.ix (.var 0) (.con (.int 3)))])) (.con (.bl true)) (.emit (.or (.cmp .is (.var 3) (.con .non)) (.cmp .isIn (.var 3) (.var 1)))))
      [some (ruleV r), some mv, some wv, none] h = .ok (.fro ([vS r.mood, vS r.later].map fun _ => PV.bl true)) h := by
    refine q_lcm (by simp) (by simp [evIt, ev, er]) fun x hx => ?_
    have : ∃ o : OS, x = vS o ∧ ∀ s, o = some s → s ∈ ms := by
      simp only [List.mem_cons, List.not_mem_nil, or_false] at hx
      rcases hx with rfl | rfl
      · exact ⟨_, rfl, ok.mood⟩
      · exact ⟨_, rfl, ok.later⟩
    obtain ⟨o, rfl, ho⟩ := this
    cases o with
    | none => simp [ev, wipeS]
    | some s =>
      have h1 := sm.isIn (P := P) (F := Fn P (n + 1)) (.str s)
      have h2 := q_in_str (P := P) (F := Fn P (n + 1)) (h := h) (some s) ms
      have h3 : ((ms.map some).contains (some s)) = true := by simpa using ho s rfl
      rw [h3, vS_some, ← h1] at h2
      simp [ev, wipeS, h2]
  have e3 : cmpE P (Fn P (n + 1)) .isIn (.str r.ev) (.tup (.str "beat" :: .str "give" :: ws.map .str)) h = .ok (.bl true) h := by
    have h2 := q_in_str (P := P) (F := Fn P (n + 1)) (h := h) (some r.ev) (evs ws)
    have h3 : (((evs ws).map some).contains (some r.ev)) = true := by simpa using ok.ev
    rw [h3] at h2
    exact h2
  have e4 : ∀ s, r.say = some s → cmpE P (Fn P (n + 1)) .isIn (.str s) (.tup (.str "give" :: ws.map .str)) h = .ok (.bl true) h := fun s hs => by
    have h2 := q_in_str (P := P) (F := Fn P (n + 1)) (h := h) (some s) (sGive :: ws)
    have h3 : (((sGive :: ws).map some).contains (some s)) = true := by simpa using ok.say s hs
    rw [h3] at h2
    exact h2
  have e5 : ∀ s, r.st = some s → cmpE P (Fn P (n + 1)) .notIn (.str s) (.tup [.str "lack", .str "aside", .str "have"]) h = .ok (.bl false) h := fun s hs => by
    have h2 := q_notin_vS (F := Fn P (n + 1)) (h := h) (some s) (statuses.map some)
    have h3 : ((statuses.map some).contains (some s)) = true := by
      have := ok.st s hs
      simpa using this
    rw [h3] at h2
    exact h2
  have z1 : ws.length + 1 ≤ sizeL := by unfold sizeL; omega
  have z2 : ws.length + 1 + 1 ≤ sizeL := by unfold sizeL; omega
  have x0 : doIx (ruleV r) (.int 0) h = .ok (vS r.st) h := by simp [er]
  have x2 : doIx (ruleV r) (.int 2) h = .ok (.str r.ev) h := by simp [er]
  have x4 : doIx (ruleV r) (.int 4) h = .ok (vS r.say) h := by simp [er]
  have x5 : doIx (ruleV r) (.int 5) h = .ok (.bl r.hold) h := by simp [er]
  have ln : bLen (ruleV r) h = .ok (.int 6) h := rfl
  have sq := sw.seq
  clear er
  rcases hst : r.st with _ | st <;> rcases hsy : r.say with _ | sy <;> rw [hst] at x0 <;> rw [hsy] at x4
  · simp [d_is_rule, exs, ex, tst, e1, e2, q0, ln, x0, x2, x4, x5, isi_bool, isi_str, doBlt, on1, bAll, blsOf, e3, sq, z1, z2]
  · simp [d_is_rule, exs, ex, tst, e1, e2, q0, ln, x0, x2, x4, x5, isi_bool, isi_str, doBlt, on1, bAll, blsOf, e3, sq, z1, z2, e4 _ hsy]
  · simp [d_is_rule, exs, ex, tst, e1, e2, q0, ln, x0, x2, x4, x5, isi_bool, isi_str, doBlt, on1, bAll, blsOf, e3, sq, z1, z2, e5 _ hst]
  · simp [d_is_rule, exs, ex, tst, e1, e2, q0, ln, x0, x2, x4, x5, isi_bool, isi_str, doBlt, on1, bAll, blsOf, e3, sq, z1, z2, e4 _ hsy, e5 _ hst]
end K89
end

section
set_option Elab.async false
set_option linter.all false
set_option maxRecDepth 100000
set_option maxHeartbeats 2000000
namespace K89
open PySem L2 R
theorem flat_one {β : Type} (l : List β) : (l.flatMap fun _ => [PV.bl true]) = List.replicate l.length (.bl true) := by
  induction l with
  | nil => rfl
  | cons x l ih => rw [List.flatMap_cons, ih, List.length_cons, List.replicate_succ]; rfl
theorem q_lcmS {n : Nat} {h0 h : PH} {sl : Sl} {tg : Tg} {own : List Nat} {it elt : E} {l : List Itm} {r : Src} (hl : l.length ≤ 1000) (hit : evIt P (Fn P n) it sl h0 = .ok r h) (hy : Yields r l h)
    (he : ∀ x ∈ l, ∃ s1, asg tg x h (wipeS sl own) = some s1 ∧ ev P (Fn P n) elt s1 h = .ok (.bl true) h) : ev P (Fn P n) (.lcm true tg own it (.con (.bl true)) (.emit elt)) sl h0 = .ok (.fro (List.replicate l.length (.bl true))) h := by
  refine sat_eq ?_
  simp only [ev, hit, Rs.bind_ok, sat_bind, sat_noEr, tru_bl, rs_of_some]
  refine eq_sat (v := List.replicate l.length (.bl true)) (h := h) ?_ ⟨rfl, rfl⟩
  refine (cl_flat (g := fun _ => [.bl true]) [] hy (fun i hi => ?_) ?_).trans ?_
  · obtain ⟨s1, h1, h2⟩ := he i hi
    refine ⟨s1, h1, rfl, fun acc hz => ?_⟩
    simp only [List.length_singleton] at hz
    simp only [evC, h2, Rs.bind_ok]
    rw [if_pos (by omega)]
  · rw [length_flatMap_const (k := 1) (fun _ _ => rfl)]
    simp
    unfold sizeL
    omega
  · rw [List.nil_append, flat_one]
@[simp] theorem alls {h : PH} (k : Nat) : bAll (.fro (List.replicate k (.bl true))) h = .ok (.bl true) h := by
  have e : ∀ k, blsOf (List.replicate k (PV.bl true)) = some (List.replicate k true) := fun k => by
    induction k with
    | zero => rfl
    | succ k ih => simp [List.replicate_succ, blsOf, ih]
  simp only [bAll, e]
  congr 2
  simp
theorem cut1 {α : Type} (l : List α) : cutI l (some 1) none = l.drop 1 := by
  unfold cutI
  have h1 : HT.sIx l.length l.length none = l.length := rfl
  have h2 : HT.sIx l.length 0 (some 1) = min 1 l.length := by simp [HT.sIx]
  rw [h1, h2]
  cases l with
  | nil => rfl
  | cons x l => simp
def Asc (ws : List Str) : Prop := ∀ p ∈ ws.zip (ws.drop 1), p.1.cps.toList < p.2.cps.toList
theorem e_ascends : P.fn "ascends" = some d_ascends := by rfl
theorem yields_zip {a b : Src} {l m : List PV} {h : PH} (ya : Yields a (l.map .one) h) (yb : Yields b (m.map .one) h) (ha : ∀ i, a.at h i = l[i]?) (hb : ∀ i, b.at h i = m[i]?) : Yields (.zip a b) ((l.zip m).map fun p => .two p.1 p.2) h := by
  refine ⟨by simp [Src.len, ya.1, yb.1], fun i => ?_⟩
  simp only [Src.get, ha, hb, List.getElem?_map]
  cases e1 : l[i]? with
  | none =>
    have : (l.zip m)[i]? = none := by rw [List.getElem?_eq_none_iff] at e1 ⊢; rw [List.length_zip]; omega
    rw [this]; rfl
  | some x => cases e2 : m[i]? with
    | none =>
      have : (l.zip m)[i]? = none := by rw [List.getElem?_eq_none_iff] at e2 ⊢; rw [List.length_zip]; omega
      rw [this]; rfl
    | some y =>
      have : (l.zip m)[i]? = some (x, y) := List.getElem?_zip_eq_some.mpr ⟨e1, e2⟩
      rw [this]; rfl
theorem s_ascends (n : Nat) {h : PH} {v : PV} {ws : List Str} (s : SeqV h v (ws.map .str)) (hw : ws.length ≤ 100) (A : Asc ws) : sat (Fn P (n + 1) "ascends" [v] h) fun x h' => x = .bl true ∧ Ex h h' := by
  refine sat_fn e_ascends rfl ?_
  have el : ∀ (sl : Sl) (h : PH) (x : Itm), x ∈ ((ws.map PV.str).zip ((ws.map PV.str).drop 1)).map (fun p => Itm.two p.1 p.2) → ∃ s1, asg (.many [1, 2]) x h (wipeS [some v, none, none] [1, 2]) = some s1 ∧ ev P (Fn P n) (.cmp .lt (.var 1) (.var 2)) s1 h = .ok (.bl true) h := fun sl h x hx => by
    obtain ⟨p, hp, rfl⟩ := List.mem_map.mp hx
    rw [← List.map_drop, List.zip_map] at hp
    obtain ⟨q, hq, rfl⟩ := List.mem_map.mp hp
    refine ⟨_, rfl, ?_⟩
    have := A q hq
    simp [wipeS, this]
  rcases s with rfl | ⟨m, rfl, e⟩
  · have hit : evIt P (Fn P n) (.itZ (.var 0) (.slF (.var 0) (.con (.int 1)))) [some (.tup (ws.map .str)), none, none] h = .ok (.zip (.its (ws.map .str)) (.its ((ws.map .str).drop 1))) h := by
      simp only [evIt, v_var, v_slF, v_con, List.getD_cons_zero, rs_of_some, Rs.bind_ok, intOf, doSl, cut1, srcZ, isTupP, if_true, srcOf]
      rfl
    have q := q_lcmS (n := n) (h0 := h) (h := h) (sl := [some (.tup (ws.map .str)), none, none]) (tg := .many [1, 2]) (own := [1, 2]) (it := .itZ (.var 0) (.slF (.var 0) (.con (.int 1)))) (elt := .cmp .lt (.var 1) (.var 2)) (l := ((ws.map PV.str).zip ((ws.map PV.str).drop 1)).map fun p => .two p.1 p.2) (by simp; omega)
      hit (yields_zip (yields_its _ _) (yields_its _ _) (fun _ => rfl) fun _ => rfl) (fun x hx => el [] h x hx)
    simp only [d_ascends, exs, ex, List.map_cons, List.map_nil, List.length_cons, List.length_nil, List.cons_append, List.nil_append]
    simp [q, doBlt, on1]
    exact Ex.refl h
  · have e2 : (h ++ [PO.lst ((ws.map PV.str).drop 1)])[m]? = some (.lst (ws.map .str)) := Ex.app _ _ _ _ e
    have e3 : (h ++ [PO.lst ((ws.map PV.str).drop 1)])[h.length]? = some (.lst ((ws.map .str).drop 1)) := get_new _ _
    have hit : evIt P (Fn P n) (.itZ (.var 0) (.slF (.var 0) (.con (.int 1)))) [some (.ref m), none, none] h = .ok (.zip (.ref m) (.ref h.length)) (h ++ [PO.lst ((ws.map PV.str).drop 1)]) := by
      simp only [evIt, v_var, v_slF, v_con, List.getD_cons_zero, rs_of_some, Rs.bind_ok, intOf, doSl, e, cut1, newO_eq, srcZ, isTupP, if_true, srcOf, e2, e3]
      rfl
    have q := q_lcmS (n := n) (h0 := h) (sl := [some (.ref m), none, none]) (tg := .many [1, 2]) (own := [1, 2]) (it := .itZ (.var 0) (.slF (.var 0) (.con (.int 1)))) (elt := .cmp .lt (.var 1) (.var 2)) (l := ((ws.map PV.str).zip ((ws.map PV.str).drop 1)).map fun p => .two p.1 p.2) (by simp; omega)
      hit (yields_zip (yields_ref e2) (yields_ref e3) (fun i => by simp only [Src.at, e2]) fun i => by simp only [Src.at, e3]) (fun x hx => el [] _ x hx)
    simp only [d_ascends, exs, ex, List.map_cons, List.map_nil, List.length_cons, List.length_nil, List.cons_append, List.nil_append]
    simp [q, doBlt, on1]
    exact Ex.app _ _
end K89
end

section
set_option Elab.async false
set_option linter.all false
set_option maxRecDepth 100000
set_option maxHeartbeats 2000000
namespace K89
open PySem L2 R
theorem dc_keys {F : FF} {h : PH} {tg : Tg} {vs : List Nat} {c : Sl → PH → Rs Bool} {kx vx : Sl → PH → Rs PV} {r : Src} {sl : Sl} {ms : List Str} (hy : Yields r ((ms.map PV.str).map .one) h) (hn : ms.Nodup) (hz : ms.length ≤ 1000)
    (hs : ∀ m : Str, ∃ s1, asg tg (.one (.str m)) h (wipeS sl vs) = some s1 ∧ c s1 h = .ok true h ∧ kx s1 h = .ok (.str m) h ∧ vx s1 h = .ok (.bl true) h) :
    ∀ (post pre : List Str), ms = pre ++ post → dcGo tg vs c kx vx r sl post.length pre.length (pre.map fun m => (Sum.inr m, PV.bl true)) h = .ok (ms.map fun m => (Sum.inr m, PV.bl true)) h
  | [], pre, e => by
    rw [List.append_nil] at e
    subst e
    simp only [List.length_nil, dcGo, hy.1]
    simp
  | m :: post, pre, e => by
    have hg := hy.2 pre.length
    have hx : ((ms.map PV.str).map Itm.one)[pre.length]? = some (.one (.str m)) := by rw [e]; simp
    obtain ⟨s1, h1, h2, h3, h4⟩ := hs m
    simp only [List.length_cons, dcGo, hg, hx, h1, h2, h3, h4, Rs.bind_ok, keyP]
    have ih := dc_keys (F := F) hy hn hz hs post (pre ++ [m]) (by rw [e]; simp)
    have nm : m ∉ pre := fun hm => by
      rw [e, List.nodup_append] at hn
      exact hn.2.2 m hm m List.mem_cons_self rfl
    have put : putKP (pre.map fun m => (Sum.inr m, PV.bl true)) (Sum.inr m) (.bl true) = (pre ++ [m]).map fun m => ((Sum.inr m : Key), PV.bl true) := by
      unfold putKP
      rw [if_neg (by
        simp only [List.any_map, List.any_eq_true, not_exists, not_and, Function.comp]
        intro x hx hd
        exact nm (by
          have : x = m := by simpa using hd
          rw [← this]; exact hx))]
      simp
    rw [if_pos (by
      have := congrArg List.length e
      simp at this
      simp
      unfold sizeL
      omega), put]
    simpa using ih
structure ValT (T : Tk) : Prop where
  v : Val T
  nm : ∀ s ∈ T.moods, Nm s
  nw : ∀ s ∈ T.words, Nm s
  asc : Asc T.words
theorem guard_sat {F : FF} {c : E} {sl : Sl} {h : PH} {D : Po} (s : sat (ev P F c sl h) fun x h' => tru h' x = some false ∧ D.nx sl h') : osat (ex P F (.ife c [.bad] []) sl h) D := by
  simp only [ex, osat_out, tst, sat_bind]
  refine sat_mono s fun x h' ⟨e, q⟩ => ?_
  rw [e]
  exact q
theorem setF_sat {F : FF} {e : E} {sl : Sl} {h : PH} {D : Po} {t : Nat} {fs : List (Str × PV)} {f : Str} {v : PV} (ht : sl.getD 0 none = some (.ref t)) (he : ev P F e sl h = .ok v h) (hi : h[t]? = some (.ins "Talk" fs)) (hf : P.hasF "Talk" f = true) (hl : fs.length < 100)
    (q : D.nx sl (h.set t (.ins "Talk" (putP f v fs)))) : osat (ex P F (.setF (.var 0) f e) sl h) D := by
  simp only [ex, osat_out, he, sat_ok, v_var, ht, rs_of_some, hi, hf, Bool.true_and]
  rw [if_pos (decide_eq_true hl)]
  exact q
theorem putP_len (f : Str) (v : PV) : ∀ fs, (putP f v fs).length ≤ fs.length + 1
  | [] => Nat.le_refl _
  | (g, w) :: r => by
    unfold putP
    split
    · exact Nat.le_succ _
    · exact Nat.succ_le_succ (putP_len f v r)
theorem e_init : P.fn "Talk.__init__" = some d_Talk___init__ := by rfl
theorem setEx {h : PH} {t : Nat} {o u : PO} (hi : h[t]? = some u) : (h.set t o)[t]? = some o := by
  have := (List.getElem?_eq_some_iff.mp hi).1
  exact List.getElem?_set_self this
theorem seq_set {g : PH} {v : PV} {l : List PV} {t : Nat} {C : Str} {fs : List (Str × PV)} {o : PO} (s : SeqV g v l) (e : g[t]? = some (.ins C fs)) : SeqV (g.set t o) v l := by
  rcases s with rfl | ⟨n, rfl, h⟩
  · exact .inl rfl
  · refine .inr ⟨n, rfl, ?_⟩
    have hn : t ≠ n := fun z => by
      subst z
      rw [e] at h
      cases h
    rw [List.getElem?_set_ne hn]
    exact h
theorem s_init (n : Nat) {T : Tk} {t : Nat} {h : PH} {mv wv rv : PV} (V : ValT T) (hi : h[t]? = some (.ins "Talk" [])) (sm : SeqV h mv (T.moods.map .str)) (sw : SeqV h wv (T.words.map .str)) (sr : SeqV h rv (T.rules.map ruleV)) :
    sat (Fn P (n + 4) "Talk.__init__" [.ref t, mv, wv, rv] h) fun v h' => v = .non ∧ TalkAt h' t T ∧ ∀ (i : Nat) (o : PO), i ≠ t → h[i]? = some o → h'[i]? = some o := by
  refine sat_fn e_init rfl ?_
  have m1 := V.v.v.m1
  have m5 := V.v.v.m5
  have w4 := V.v.v.w4
  have r90 := V.v.r90
  have ln : ∀ {v : PV} {l : List PV} {h : PH}, SeqV h v l → bLen v h = .ok (.int l.length) h := fun s => by have := s.len; simpa [doBlt, on1] using this
  obtain ⟨rm, hm1, hm2⟩ := sm.src
  have z1 : decide ((1 : Int) ≤ (T.moods.length : Int)) = true := by simp; omega
  have z2 : decide ((T.moods.length : Int) ≤ 5) = true := by simp; omega
  have z3 : decide ((4 : Int) < (T.words.length : Int)) = false := by simp; omega
  have z4 : decide ((90 : Int) < (T.rules.length : Int)) = false := by simp; omega
  simp only [d_Talk___init__, exs, osat_bind, List.map_cons, List.map_nil, List.length_cons, List.length_nil, List.cons_append, List.nil_append]
  -- moods
  refine guard_sat ?_
  have c1 : ev P (Fn P (n + 3)) (.lcm true (.one 7) [7] (.itE (.var 1)) (.con (.bl true)) (.emit (.fn "is_name" [(.var 7)]))) [some (.ref t), some mv, some wv, some rv, none, none, none, none] h = _ :=
    q_lcmS (h0 := h) (l := (T.moods.map .str).map .one) (by simp; omega) (by simp [evIt, hm1]) (hm2 h (Ex.refl h)) fun x hx => by
      rw [List.map_map, List.mem_map] at hx
      obtain ⟨s, hs, rfl⟩ := hx
      refine ⟨_, rfl, ?_⟩
      have := q_is_name (n + 2) (h := h) (V.nm s hs)
      simp [wipeS, this]
  have q0 : Fn P (n + 3) "is_listed" [mv] h = _ := q_is_listed (n + 2) sm
  simp [q0, doBlt, on1, ln sm, z1, z2, c1]
  -- the dict
  have c2 : ev P (Fn P (n + 3)) (.dc (.one 6) [6] (.itE (.var 1)) (.con (.bl true)) (.var 6) (.con (.bl true))) [some (.ref t), some mv, some wv, some rv, none, none, none, none] h = .ok (.ref h.length) (h ++ [.dic (T.moods.map fun m => (Sum.inr m, PV.bl true))]) := by
    have y := hm2 h (Ex.refl h)
    have d := dc_keys (F := Fn P (n + 3)) (tg := .one 6) (vs := [6]) (c := fun s h => Rs.ok true h) (kx := fun s h => ev P (Fn P (n + 3)) (.var 6) s h) (vx := fun s h => ev P (Fn P (n + 3)) (.con (.bl true)) s h) (sl := [some (.ref t), some mv, some wv, some rv, none, none, none, none]) y V.v.v.mn (by omega)
      (fun m => ⟨_, rfl, rfl, by simp [wipeS], by simp⟩) T.moods [] rfl
    have yl := y.1
    simp only [List.length_map] at yl
    simp only [List.map_nil, List.length_nil] at d
    simp only [ev, evIt, Rs.bind_ok, List.getD_cons_succ, List.getD_cons_zero, rs_of_some, hm1, tru_bl, yl]
    rw [show dcGo (.one 6) [6] (fun s h => Rs.ok true h) (fun s h => Rs.of (s.getD 6 none) h) (fun s h => .ok (.bl true) h) rm [some (.ref t), some mv, some wv, some rv, none, none, none, none] T.moods.length 0 [] h = _ from d]
    rfl
  generalize hks : T.moods.map (fun m => ((Sum.inr m : Key), PV.bl true)) = ks at c2
  have lks : ks.length = T.moods.length := by rw [← hks]; simp
  have x1 : Ex h (h ++ [.dic ks]) := Ex.app _ _
  have sm1 := sm.ex x1
  have lk : bLen (.ref h.length) (h ++ [.dic ks]) = .ok (.int ks.length) (h ++ [.dic ks]) := by simp [bLen]
  refine guard_sat ?_
  simp [c2, doBlt, on1, lk, ln sm1, lks]
  -- words
  have sw1 := sw.ex x1
  obtain ⟨rw1, hw1, hw2⟩ := sw1.src
  have c3 : ev P (Fn P (n + 3)) (.lcm true (.one 7) [7] (.itE (.var 2)) (.con (.bl true)) (.emit (.fn "is_name" [(.var 7)]))) [some (.ref t), some mv, some wv, some rv, none, none, none, none] (h ++ [.dic ks]) = _ :=
    q_lcmS (h0 := h ++ [.dic ks]) (l := (T.words.map .str).map .one) (by simp; omega) (by simp [evIt, hw1]) (hw2 _ (Ex.refl _)) fun x hx => by
      rw [List.map_map, List.mem_map] at hx
      obtain ⟨s, hs, rfl⟩ := hx
      refine ⟨_, rfl, ?_⟩
      have := q_is_name (n + 2) (h := h ++ [.dic ks]) (V.nw s hs)
      simp [wipeS, this]
  have q1 : Fn P (n + 3) "is_listed" [wv] (h ++ [.dic ks]) = _ := q_is_listed (n + 2) sw1
  refine guard_sat ?_
  simp [q1, doBlt, on1, ln sw1, z3, c3]
  -- ascending
  refine guard_sat ?_
  have sa := s_ascends (n + 2) sw1 (by omega) V.asc
  simp
  refine sat_mono sa fun x h2 ⟨ex, x2⟩ => ?_
  subst ex
  have x02 := x1.trans x2
  have sw2 := sw1.ex x2
  have en := V.v.v.en
  have ng : ((T.words.map some).contains (some sGive)) = false := by
    have := (List.nodup_cons.mp (List.nodup_cons.mp en).2).1
    simpa using this
  have nb : ((T.words.map some).contains (some sBeat)) = false := by
    have := (List.nodup_cons.mp en).1
    have h3 : sBeat ∉ T.words := fun z => this (List.mem_cons_of_mem _ z)
    simpa using h3
  have i1 : cmpE P (Fn P (n + 3)) .isIn (.str "give") wv h2 = .ok (.bl false) h2 := by
    rw [sw2.isIn]
    have := q_in_str (P := P) (F := Fn P (n + 3)) (h := h2) (some sGive) T.words
    rw [ng] at this
    exact this
  have i2 : cmpE P (Fn P (n + 3)) .isIn (.str "beat") wv h2 = .ok (.bl false) h2 := by
    rw [sw2.isIn]
    have := q_in_str (P := P) (F := Fn P (n + 3)) (h := h2) (some sBeat) T.words
    rw [nb] at this
    exact this
  simp [i1, i2]
  -- rules
  have sr2 := sr.ex x02
  have sm2 := sm.ex x02
  have q2 : Fn P (n + 3) "is_listed" [rv] h2 = _ := q_is_listed (n + 2) sr2
  refine guard_sat ?_
  simp [q2, doBlt, on1, ln sr2, z4]
  obtain ⟨re, he1, he2⟩ := sr2.srcN
  refine forx (r := re) (h' := h2) (by simp [evIt, he1]) ?_
  refine for_all (l := (T.rules.map ruleV).mapIdx fun i x => .two (.int (i : Nat)) x) (Inv := fun pre s h' => h' = h2 ∧ ∃ x y z w, s = [some (.ref t), some mv, some wv, some rv, x, y, z, w]) ⟨rfl, _, _, _, _, rfl⟩ (fun pre s h' I => by rw [I.1]; exact he2 _ (Ex.refl _)) ?_ ?_
  · rintro pre x post s h' hl ⟨rfl, a, b, c, d, rfl⟩
    obtain ⟨x0, h1, rfl⟩ := mapIdx_split hl
    rw [List.getElem?_map, Option.map_eq_some_iff] at h1
    obtain ⟨rl, h1, rfl⟩ := h1
    refine ⟨_, rfl, ?_⟩
    have q3 : Fn P (n + 3) "is_rule" [ruleV rl, mv, wv] h' = _ := q_is_rule (n + 1) sm2 sw2 (by omega) (V.v.ok rl (List.mem_of_getElem? h1))
    simp only [exs, osat_bind]
    refine guard_sat ?_
    simp [q3]
  · rintro s h' ⟨rfl, a, b, c, d, rfl⟩
    have hi2 : h'[t]? = some (.ins "Talk" []) := x02 _ _ hi
    have p1 : P.hasF "Talk" "moods" = true := by rfl
    have p2 : P.hasF "Talk" "words" = true := by rfl
    have p3 : P.hasF "Talk" "rules" = true := by rfl
    have k1 : Fn P (n + 3) "copied" [mv] h' = _ := q_copied_strs (n + 1) sm2 (by unfold sizeL; omega)
    dsimp only
    refine setF_sat (v := .tup (T.moods.map .str)) (by rfl) (by simp [k1]) hi2 p1 (by decide) ?_
    have hi3 := setEx (o := .ins "Talk" (putP "moods" (.tup (T.moods.map .str)) [])) hi2
    have sw3 := seq_set (o := .ins "Talk" (putP "moods" (.tup (T.moods.map .str)) [])) sw2 hi2
    have sr3 := seq_set (o := .ins "Talk" (putP "moods" (.tup (T.moods.map .str)) [])) sr2 hi2
    generalize hg1 : h'.set t (.ins "Talk" (putP "moods" (.tup (T.moods.map .str)) [])) = g1 at hi3 sw3 sr3 ⊢
    have k2 : Fn P (n + 3) "copied" [wv] g1 = _ := q_copied_strs (n + 1) sw3 (by unfold sizeL; omega)
    refine setF_sat (v := .tup (T.words.map .str)) (by rfl) (by simp [k2]) hi3 p2 (Nat.lt_of_le_of_lt (putP_len _ _ _) (by decide)) ?_
    have hi4 := setEx (o := .ins "Talk" (putP "words" (.tup (T.words.map .str)) (putP "moods" (.tup (T.moods.map .str)) []))) hi3
    have sr4 := seq_set (o := .ins "Talk" (putP "words" (.tup (T.words.map .str)) (putP "moods" (.tup (T.moods.map .str)) []))) sr3 hi3
    generalize hg2 : g1.set t (.ins "Talk" (putP "words" (.tup (T.words.map .str)) (putP "moods" (.tup (T.moods.map .str)) []))) = g2 at hi4 sr4 ⊢
    have k3 : Fn P (n + 3) "copied" [rv] g2 = _ := q_copied_rules n sr4 (by unfold sizeL; omega)
    refine setF_sat (v := .tup (T.rules.map ruleV)) (by rfl) (by simp [k3]) hi4 p3 (Nat.lt_of_le_of_lt (putP_len _ _ _) (Nat.succ_lt_succ (Nat.lt_of_le_of_lt (putP_len _ _ _) (by decide : 0 + 1 < 99)))) ?_
    simp only [osat_nx]
    refine ⟨setEx hi4, fun i o hit e => ?_⟩
    rw [List.getElem?_set_ne (Ne.symm hit), ← hg2, List.getElem?_set_ne (Ne.symm hit), ← hg1, List.getElem?_set_ne (Ne.symm hit)]
    exact x02 _ _ e
end K89
end

section
set_option Elab.async false
set_option linter.all false
set_option maxRecDepth 100000
set_option maxHeartbeats 2000000
namespace K89
open PySem L2 R
theorem e_mk : initName P "Talk" = some ("Talk.__init__" : Str) := by rfl
theorem s_mk {n : Nat} {es : List E} {sl : Sl} {h0 : PH} {Q : PV → PH → Prop}
    (he : sat (R.evs P (Fn P (n + 4)) es sl h0) fun l h => ∃ T mv wv rv, l = [mv, wv, rv] ∧ ValT T ∧ SeqV h mv (T.moods.map .str) ∧ SeqV h wv (T.words.map .str) ∧ SeqV h rv (T.rules.map ruleV) ∧ ∀ h', TalkAt h' h.length T → Ex h h' → Q (.ref h.length) h') :
    sat (ev P (Fn P (n + 4)) (.mk "Talk" es) sl h0) Q := by
  rw [v_mk, sat_bind]
  refine sat_mono he fun l h ⟨T, mv, wv, rv, e, V, sm, sw, sr, q⟩ => ?_
  subst e
  have x1 : Ex h (h ++ [.ins "Talk" []]) := Ex.app _ _
  simp only [e_mk, sat_bind]
  refine sat_mono (s_init n V (get_new h (.ins "Talk" [])) (sm.ex x1) (sw.ex x1) (sr.ex x1)) fun v h' ⟨e1, e2, e3⟩ => ?_
  subst e1
  refine q h' e2 fun i o e => e3 i o (fun z => ?_) (x1 _ _ e)
  have := (List.getElem?_eq_some_iff.mp e).1
  omega
theorem e_need_talk : P.fn "need_talk" = some d_need_talk := by rfl
theorem q_need_talk (n : Nat) {T : Tk} {t : Nat} {h : PH} {s : Str} (a : TalkAt h t T) : Fn P (n + 1) "need_talk" [.ref t, .str s] h = .ok .non h := by
  rw [fn_eq e_need_talk rfl]
  simp [d_need_talk, R.run, exs, ex, tst, ev, a.isi]
theorem e_talk_number : P.fn "talk_number" = some d_talk_number := by rfl
theorem q_talk_number (n : Nat) {T : Tk} {t : Nat} {h : PH} (a : TalkAt h t T) (V : Val T) : Fn P (n + 5) "talk_number" [.ref t] h = .ok (.int (number T : Nat)) (h ++ [.lst ((casesOf T.moods T.words).map caseV)]) := by
  rw [fn_eq e_talk_number rfl]
  have q1 : Fn P (n + 4) "need_talk" [.ref t, .str "talk"] h = _ := q_need_talk (n + 3) a
  have q2 : Fn P (n + 4) "number_in" [.ref t] h = _ := q_number_in n a V
  simp [d_talk_number, R.run, exs, ex, ev, q1, q2]
/-- moods and words that a talk can have -/
structure ValN (ms ws : List Str) : Prop where
  v : ValM ms ws
  nm : ∀ s ∈ ms, Nm s
  nw : ∀ s ∈ ws, Nm s
  asc : Asc ws
theorem ValN.tk {ms ws : List Str} (v : ValN ms ws) {rs : List Rule} (h9 : rs.length ≤ 90) (ok : ∀ r ∈ rs, RuleOk ms ws r) : ValT ⟨ms, ws, rs⟩ := ⟨⟨v.v, h9, ok⟩, v.nm, v.nw, v.asc⟩
theorem ValN.plain {ms ws : List Str} (v : ValN ms ws) (n : Nat) : ValT (plainTk ms ws n) := ⟨val_plain v.v n, v.nm, v.nw, v.asc⟩
theorem ValT.n {T : Tk} (V : ValT T) : ValN T.moods T.words := ⟨V.v.v, V.nm, V.nw, V.asc⟩
theorem ValN.none {ms ws : List Str} (v : ValN ms ws) : ValT ⟨ms, ws, []⟩ := v.tk (by simp) (fun r h => absurd h List.not_mem_nil)
theorem e_how_many : P.fn "how_many" = some d_how_many := by rfl
theorem s_how_many (n : Nat) {h : PH} {mv wv : PV} {ms ws : List Str} (v : ValN ms ws) (sm : SeqV h mv (ms.map .str)) (sw : SeqV h wv (ws.map .str)) :
    sat (Fn P (n + 5) "how_many" [mv, wv] h) fun x h' => x = .int (many ms ws : Nat) ∧ Ex h h' := by
  refine sat_fn e_how_many rfl ?_
  simp only [d_how_many, exs, ex, osat_bind, osat_out, v_fn, q_evs_mk, sat_bind]
  refine s_mk (n := n) ?_
  have x1 : Ex h (h ++ [.lst []]) := Ex.app _ _
  refine eq_sat (v := [mv, wv, .ref h.length]) (h := h ++ [.lst []]) (by simp [newF]) ⟨⟨ms, ws, []⟩, mv, wv, _, rfl, v.none, sm.ex x1, sw.ex x1, .inr ⟨_, rfl, get_new _ _⟩, fun h' a x => ?_⟩
  simp only [q_evs_nil, Rs.bind_ok, sat_ok, sat_bind, osat_rt]
  have q : Fn P (n + 4) "many_in" [.ref (h ++ [PO.lst []]).length] h' = _ := q_many_in (n + 1) (T := ⟨ms, ws, []⟩) a v.v
  rw [q]
  exact ⟨rfl, x1.trans (x.trans (Ex.app _ _))⟩
end K89
end

section
set_option Elab.async false
set_option linter.all false
set_option maxRecDepth 100000
set_option maxHeartbeats 2000000
namespace K89
open PySem L2 R
theorem digL_snoc : ∀ (l : List Nat) (q n : Nat), digL (l ++ [q]) n = digL l n ++ [(n / prodL l) % q]
  | [], q, n => by simp [digL, prodL]
  | a :: l, q, n => by
    simp only [List.cons_append, digL, digL_snoc l q (n / a), prodL, Nat.div_div_eq_div_mul]
def rlist (ms ws : List Str) (cs : List Case) (n : Nat) : List (Option Rule) := (cs.zip (digL (cs.map (placesOf ms ws)) n)).map fun x => ruleBy ms ws x.1 x.2
theorem rlist_snoc (ms ws : List Str) (cs : List Case) (c : Case) (n : Nat) : rlist ms ws (cs ++ [c]) n = rlist ms ws cs n ++ [ruleBy ms ws c ((n / prodL (cs.map (placesOf ms ws))) % placesOf ms ws c)] := by
  unfold rlist
  rw [List.map_append, List.map_singleton, digL_snoc, List.zip_append (by simp [digL_length]), List.map_append]
  rfl
theorem rlist_len (ms ws : List Str) (cs : List Case) (n : Nat) : (rlist ms ws cs n).length = cs.length := by
  unfold rlist
  rw [List.length_map, List.length_zip, digL_length, List.length_map]
  omega
theorem rlist_all (ms ws : List Str) (n : Nat) : (rlist ms ws (casesOf ms ws) n).filterMap id = plainRules ms ws n := by
  unfold rlist plainRules qs
  rw [List.filterMap_map]
  rfl
theorem ruleV_inj {a b : Rule} (e : ruleV a = ruleV b) : a = b := by
  obtain ⟨a1, a2, a3, a4, a5, a6⟩ := a
  obtain ⟨b1, b2, b3, b4, b5, b6⟩ := b
  simp only [ruleV, PV.tup.injEq, List.cons.injEq, and_true, PV.str.injEq, PV.bl.injEq] at e
  obtain ⟨z1, z2, z3, z4, z5, z6⟩ := e
  rw [vS_inj z1, vS_inj z2, z3, vS_inj z4, vS_inj z5, z6]
theorem oRule_inj {a b : Option Rule} (z : Itm.one (oRule a) = Itm.one (oRule b)) : a = b := by
  injection z with z
  cases a with
  | none => cases b with
    | none => rfl
    | some b => exact PV.noConfusion z
  | some a => cases b with
    | none => exact PV.noConfusion z
    | some b => exact congrArg some (ruleV_inj z)
theorem q_some {n : Nat} {h : PH} {L : Nat} {rs : List (Option Rule)} {a b x y z : Option PV} (e : h[L]? = some (.lst (rs.map oRule))) (hl : rs.length ≤ 1000) :
    ev P (Fn P n) (.lcm false (.one 5) [5] (.itE (.var 2)) (.cmp .isNot (.var 5) (.con .non)) (.emit (.var 5))) [a, b, some (.ref L), x, y, z] h = .ok (.ref h.length) (h ++ [.lst ((rs.filterMap id).map ruleV)]) := by
  have sr := src_ref e
  refine sat_eq ?_
  simp only [ev, evIt, Rs.bind_ok, sat_bind, sat_noEr, List.getD_cons_succ, List.getD_cons_zero, rs_of_some, sr]
  refine cl_all (l := (rs.map oRule).map .one) (Inv := fun pre acc h' => h' = h ∧ ∃ p, pre = (p.map oRule).map .one ∧ acc = (p.filterMap id).map ruleV) ⟨rfl, [], rfl, rfl⟩ (fun pre acc h' I => by rw [I.1]; exact yields_ref e) ?_ ?_
  · rintro pre x post acc h' hl2 ⟨rfl, p, rfl, rfl⟩
    rw [List.map_map] at hl2
    obtain ⟨p2, c, r, hc, h1, rfl, rfl⟩ := split_map hl2
    rw [List.map_map] at h1
    have := map_inj' (f := Itm.one ∘ oRule) (fun a b => oRule_inj) h1
    subst this
    refine ⟨_, rfl, ?_⟩
    have lz : (p.filterMap id).length < sizeL := by
      have h1 := List.length_filterMap_le (id : Option Rule → Option Rule) p
      have h2 := congrArg List.length hc
      rw [List.length_append, List.length_cons] at h2
      unfold sizeL; omega
    cases c with
    | none => 
      simp [wipeS, oRule]
      exact ⟨p ++ [none], by simp [oRule], by simp⟩
    | some r0 =>
      simp [wipeS, oRule, ruleV, evC, asgV]
      rw [if_pos lz]
      refine ⟨rfl, p ++ [some r0], by simp [oRule, ruleV], by simp [ruleV]⟩
  · rintro acc h' ⟨rfl, p, h1, rfl⟩
    rw [List.map_map, List.map_map] at h1
    have := map_inj' (f := Itm.one ∘ oRule) (fun a b => oRule_inj) h1
    subst this
    simp [newF]
theorem e_plain_by : P.fn "plain_by" = some d_plain_by := by rfl
theorem s_plain_by (n : Nat) {T : Tk} {t : Nat} {h : PH} (a : TalkAt h t T) (v : ValN T.moods T.words) (k : Nat) :
    sat (Fn P (n + 5) "plain_by" [.ref t, .int (k : Nat)] h) fun x h' => ∃ t', x = .ref t' ∧ TalkAt h' t' (plainTk T.moods T.words k) ∧ Ex h h' := by
  refine sat_fn e_plain_by rfl ?_
  simp [d_plain_by, exs]
  rw [show (ex P (Fn P (n + 4)) (.set 2 (.lst false [])) [some (.ref t), some (.int (k : Nat)), none, none, none, none] h) = .nx [some (.ref t), some (.int (k : Nat)), some (.ref h.length), none, none, none] (h ++ [.lst []]) from by simp [ex, newF]]
  have x1 : Ex h (h ++ [.lst []]) := Ex.app _ _
  have q1 : Fn P (n + 4) "all_cases" [.ref t] (h ++ [.lst []]) = _ := q_all_cases (n + 3) (a.ex x1) v.v.m5 v.v.w4
  simp only [osat_nx]
  generalize hC : (casesOf T.moods T.words).map caseV = C at q1
  have g2 : (h ++ [PO.lst []] ++ [PO.lst C])[h.length + 1]? = some (.lst C) := by simp
  refine forx (r := .ref (h.length + 1)) (h' := h ++ [.lst []] ++ [.lst C]) (by
    have := src_ref g2
    simp only [List.append_assoc, List.cons_append, List.nil_append] at this
    simp [evIt, q1, this]) ?_
  refine for_all (l := C.map .one) (Inv := fun pre s h' => (Ex h h' ∧ h'[h.length + 1]? = some (.lst C)) ∧ ∃ cs x y z, pre = (cs.map caseV).map .one ∧ h'[h.length]? = some (.lst ((rlist T.moods T.words cs k).map oRule)) ∧
      s = [some (.ref t), some (.int (k / prodL (cs.map (placesOf T.moods T.words)) : Nat)), some (.ref h.length), x, y, z])
    ⟨⟨x1.trans (Ex.app _ _), g2⟩, [], none, none, none, rfl, by simp [rlist, digL], by simp [prodL]⟩ (fun pre s h' I => yields_ref I.1.2) ?_ ?_
  · rintro pre x post s h' hl ⟨⟨xh, g3⟩, cs, x0, y0, z0, rfl, g4, rfl⟩
    rw [← hC, List.map_map] at hl
    obtain ⟨p, c, r, hc, h1, rfl, rfl⟩ := split_map hl
    rw [List.map_map] at h1
    have := map_inj' (f := Itm.one ∘ caseV) (fun a b => itm_inj) h1
    subst this
    refine ⟨_, rfl, ?_⟩
    have a1 := a.ex xh
    have q3 : Fn P (n + 4) "places_in" [.ref t, caseV c] h' = _ := q_places_in (n + 2) a1 v.v.m5 v.v.w4 c
    have le := places_le v.v c
    have pos := places_pos v.v c
    have m1 := q_mod_int (h := h') (a := ((k / prodL (cs.map (placesOf T.moods T.words)) : Nat) : Int)) (b := (placesOf T.moods T.words c : Nat)) (by omega)
    have bk := q_bmK (m := .append) g4
    rw [← Int.natCast_emod] at m1
    generalize hm : k / prodL (cs.map (placesOf T.moods T.words)) = m at m1
    have q4 : Fn P (n + 4) "rule_by" [.ref t, caseV c, .int (m % placesOf T.moods T.words c : Nat)] h' = _ := q_rule_by (n + 2) a1 v.v c _ (by
      have := Nat.mod_lt m pos
      omega)
    simp only [Int.natCast_emod] at q4 m1
    have cl := cases_le v.v
    have hcl : cs.length + 1 ≤ 90 := by
      have := congrArg List.length hc
      rw [List.length_append, List.length_cons] at this
      omega
    have ap := q_append (x := oRule (ruleBy T.moods T.words c (m % placesOf T.moods T.words c))) g4 (by rw [List.length_map, rlist_len]; unfold sizeL; omega)
    have fd := q_fdivB (h := h'.set h.length (.lst ((rlist T.moods T.words cs k).map oRule ++ [oRule (ruleBy T.moods T.words c (m % placesOf T.moods T.words c))]))) (a := (m : Int)) (b := (placesOf T.moods T.words c : Nat)) (by omega) (sm_big (by simp; omega))
    simp [exs, ex, q3, bk, m1, q4, ap, fd]
    refine ⟨⟨fun i o e => ?_, ?_⟩, cs ++ [c], ?_, ?_, ?_⟩
    · have hi := (List.getElem?_eq_some_iff.mp e).1
      rw [List.getElem?_set_ne (by omega)]
      exact xh _ _ e
    · first
      | exact g3
      | (rw [List.getElem?_set_ne (by omega)]; exact g3)
    · simp
    · have := (List.getElem?_eq_some_iff.mp g4).1
      simp only [Nat.zero_add, List.append_assoc] at *
      rw [List.getElem?_set_self this, rlist_snoc, List.map_append, hm]
      rfl
    · rw [List.map_append, List.map_singleton, prodL_snoc, ← Int.natCast_ediv, ← Int.natCast_ediv, ← Nat.div_div_eq_div_mul, hm]
  · rintro s h' ⟨⟨xh, g3⟩, cs, x0, y0, z0, h1, g4, rfl⟩
    rw [← hC, List.map_map, List.map_map] at h1
    have := map_inj' (f := Itm.one ∘ caseV) (fun a b => itm_inj) h1
    subst this
    have a1 := a.ex xh
    have cl := cases_le v.v
    simp only [ex, osat_out, osat_rt]
    refine s_mk (n := n) ?_
    have qs := q_some (n := n + 4) (a := some (.ref t)) (b := some (.int (k / prodL ((casesOf T.moods T.words).map (placesOf T.moods T.words)) : Nat))) (x := x0) (y := y0) (z := z0) g4 (by rw [rlist_len]; omega)
    rw [rlist_all] at qs
    refine eq_sat (v := [.tup (T.moods.map .str), .tup (T.words.map .str), .ref h'.length]) (h := h' ++ [.lst ((plainRules T.moods T.words k).map ruleV)]) (by
      simp only [q_evs_fld, q_evs_lcm, q_evs_nil, v_fld, v_var, List.getD_cons_zero, rs_of_some, Rs.bind_ok, a1.moods, a1.words, qs]) ?_
    refine ⟨plainTk T.moods T.words k, _, _, _, rfl, v.plain k, .inl rfl, .inl rfl, .inr ⟨_, rfl, get_new _ _⟩, fun h2 b x2 => ⟨_, rfl, b, xh.trans ((Ex.app _ _).trans x2)⟩⟩
end K89
end

section
set_option Elab.async false
set_option linter.all false
set_option maxRecDepth 100000
set_option maxHeartbeats 2000000
namespace K89
open PySem L2 R
theorem set_sat {F : FF} {i : Nat} {e : E} {sl : Sl} {h : PH} {D : Po} (s : sat (ev P F e sl h) fun v h' => D.nx (sl.set i (some v)) h') : osat (ex P F (.set i e) sl h) D := by
  simp only [ex, osat_out]
  exact s
theorem ret_sat {F : FF} {e : E} {sl : Sl} {h : PH} {D : Po} (s : sat (ev P F e sl h) D.rt) : osat (ex P F (.ret e) sl h) D := by
  simp only [ex, osat_out]
  exact s
theorem exp_sat {F : FF} {e : E} {sl : Sl} {h : PH} {D : Po} (s : sat (ev P F e sl h) fun _ h' => D.nx sl h') : osat (ex P F (.exp e) sl h) D := by
  simp only [ex, osat_out]
  exact s
theorem e_talk_by : P.fn "talk_by" = some d_talk_by := by rfl
theorem s_talk_by (n : Nat) {h : PH} {mv wv : PV} {ms ws : List Str} (v : ValN ms ws) (sm : SeqV h mv (ms.map .str)) (sw : SeqV h wv (ws.map .str)) (k : Nat) (hk : k < many ms ws) :
    sat (Fn P (n + 6) "talk_by" [mv, wv, .int (k : Nat)] h) fun x h' => ∃ t', x = .ref t' ∧ TalkAt h' t' (plainTk ms ws k) ∧ Ex h h' := by
  refine sat_fn e_talk_by rfl ?_
  simp only [d_talk_by, exs, osat_bind, List.map_cons, List.map_nil, List.length_cons, List.length_nil, List.cons_append, List.nil_append]
  refine set_sat (s_mk (n := n + 1) ?_)
  have x1 : Ex h (h ++ [.lst []]) := Ex.app _ _
  refine eq_sat (v := [mv, wv, .ref h.length]) (h := h ++ [.lst []]) (by simp [newF]) ⟨⟨ms, ws, []⟩, mv, wv, _, rfl, v.none, sm.ex x1, sw.ex x1, .inr ⟨_, rfl, get_new _ _⟩, fun h1 a x => ?_⟩
  generalize (h ++ [PO.lst []]).length = t at a ⊢
  simp only [osat_nx]
  have q1 : Fn P (n + 5) "many_in" [.ref t] h1 = _ := q_many_in (n + 2) (T := ⟨ms, ws, []⟩) a v.v
  have x2 : Ex h1 (h1 ++ [.lst ((casesOf ms ws).map caseV)]) := Ex.app _ _
  have q2 : Fn P (n + 5) "is_between" [.int (k : Nat), .int 0, .int ((many ms ws : Nat) - 1)] (h1 ++ [.lst ((casesOf ms ws).map caseV)]) = _ := q_is_between (n + 3) _ _ _ _ (by omega) (by omega)
  have q3 := s_plain_by n (a.ex x2) v k
  refine guard_sat ?_
  simp [q1, q2]
  refine ret_sat ?_
  simp
  refine sat_mono q3 fun y h' ⟨t', e1, e2, e3⟩ => ⟨t', e1, e2, x1.trans (x.trans (x2.trans e3))⟩
theorem Nm.ok {s : Str} (N : Nm s) : PyData.strOk s = true := by
  unfold PyData.strOk
  rw [Array.all_eq_true']
  intro c hc
  have h1 := N.ab c (by simpa using hc)
  have h2 : ∀ c ∈ letters.cps.toList, c < 0x110000 := by decide
  exact decide_eq_true (h2 c h1)
theorem statuses_ok : ∀ s ∈ statuses, PyData.strOk s = true := by decide +kernel
theorem give_ok : PyData.strOk sGive = true := by decide +kernel
theorem beat_ok : PyData.strOk sBeat = true := by decide +kernel
theorem dv_strs {h : PH} {l : List Str} (ok : ∀ s ∈ l, PyData.strOk s = true) : ∀ x ∈ l.map PV.str, DV h 1 x := fun x hx => by
  obtain ⟨s, hs, rfl⟩ := List.mem_map.mp hx
  exact (dv_str (ok s hs)).1
structure RuleS (r : Rule) : Prop where
  st : ∀ s, r.st = some s → PyData.strOk s = true
  mood : ∀ s, r.mood = some s → PyData.strOk s = true
  ev : PyData.strOk r.ev = true
  later : ∀ s, r.later = some s → PyData.strOk s = true
  say : ∀ s, r.say = some s → PyData.strOk s = true
theorem dv_vS {h : PH} {o : OS} (k : ∀ s, o = some s → PyData.strOk s = true) : DV h 1 (vS o) := by
  cases o with
  | none => exact dv_non.1
  | some s => exact (dv_str (k s rfl)).1
theorem dv_rule {h : PH} {r : Rule} (k : RuleS r) : DV h 2 (ruleV r) := (dv_tup (k := 1) (by decide) fun x hx => by
  simp only [List.mem_cons, List.not_mem_nil, or_false] at hx
  rcases hx with rfl | rfl | rfl | rfl | rfl | rfl
  · exact dv_vS k.st
  · exact dv_vS k.mood
  · exact (dv_str k.ev).1
  · exact dv_vS k.later
  · exact dv_vS k.say
  · exact (dv_bl _).1).1
theorem RuleOk.s {ms ws : List Str} (v : ValN ms ws) {r : Rule} (k : RuleOk ms ws r) : RuleS r where
  st s e := statuses_ok s (k.st s e)
  mood s e := (v.nm s (k.mood s e)).ok
  ev := by
    have := k.ev
    simp only [evs, List.mem_cons] at this
    rcases this with e | e | e
    · rw [e]; exact beat_ok
    · rw [e]; exact give_ok
    · exact (v.nw _ e).ok
  later s e := (v.nm s (k.later s e)).ok
  say s e := by
    rcases k.say s e with e | e
    · rw [e]; exact give_ok
    · exact (v.nw _ e).ok
theorem dv_rules {h : PH} {ms ws : List Str} (v : ValN ms ws) {rs : List Rule} (k : ∀ r ∈ rs, RuleOk ms ws r) : ∀ x ∈ rs.map ruleV, DV h 2 x := fun x hx => by
  obtain ⟨r, hr, rfl⟩ := List.mem_map.mp hx
  exact dv_rule ((k r hr).s v)
theorem e_eq : P.fn "Talk.__eq__" = some d_Talk___eq__ := by rfl
theorem methOf_tup (l : List PV) (h : PH) : methOf P h (.tup l) strEqS = none := by rfl
theorem q_eq {F : FF} {h : PH} {l m : List PV} {k j : Nat} (a : DV h k (.tup l)) (b : DV h j (.tup m)) (e : dd h (.tup l) = dd h (.tup m)) : cmpE P F .eq (.tup l) (.tup m) h = .ok (.bl true) h := by
  simp only [cmpE, methOf_tup]
  exact d_eq_same a b rfl e
theorem q_neT {F : FF} {h : PH} {l m : List PV} {k j : Nat} (a : DV h k (.tup l)) (b : DV h j (.tup m)) (e : dd h (.tup l) = dd h (.tup m)) : cmpE P F .ne (.tup l) (.tup m) h = .ok (.bl false) h := by
  simp only [cmpE, methOf_tup]
  exact d_ne_same a b rfl e
theorem q_talk_eq (n : Nat) {T : Tk} {t u : Nat} {h : PH} (V : ValT T) (a : TalkAt h t T) (b : TalkAt h u T) : Fn P (n + 1) "Talk.__eq__" [.ref t, .ref u] h = .ok (.bl true) h := by
  rw [fn_eq e_eq rfl]
  have dm : DV h 2 (.tup (T.moods.map .str)) := (dv_tup (by decide) (dv_strs fun s hs => (V.nm s hs).ok)).1
  have dw : DV h 2 (.tup (T.words.map .str)) := (dv_tup (by decide) (dv_strs fun s hs => (V.nw s hs).ok)).1
  have dr : DV h 3 (.tup (T.rules.map ruleV)) := (dv_tup (by decide) (dv_rules V.n V.v.ok)).1
  have d : DV h 4 (.tup [.tup (T.moods.map .str), .tup (T.words.map .str), .tup (T.rules.map ruleV)]) := (dv_tup (k := 3) (by decide) fun x hx => by
    simp only [List.mem_cons, List.not_mem_nil, or_false] at hx
    rcases hx with rfl | rfl | rfl
    · exact dm.mono (by decide) (by decide)
    · exact dw.mono (by decide) (by decide)
    · exact dr).1
  have q := q_eq (F := Fn P n) d d rfl
  simp [d_Talk___eq__, R.run, exs, ex, tst, ev, b.isi, a.moods, a.words, a.rules, b.moods, b.words, b.rules, q, doBlt, on1, bBool]
theorem clsOf_talk {T : Tk} {t : Nat} {h : PH} (a : TalkAt h t T) : clsOf h (.ref t) = some ("Talk" : Str) := by
  unfold TalkAt at a
  simp only [clsOf, a]
theorem q_talk_ne (n : Nat) {T : Tk} {t u : Nat} {h : PH} (V : ValT T) (a : TalkAt h t T) (b : TalkAt h u T) : cmpE P (Fn P (n + 1)) .ne (.ref t) (.ref u) h = .ok (.bl false) h := by
  have q : Fn P (n + 1) "Talk.__eq__" [.ref t, .ref u] h = _ := q_talk_eq n V a b
  have k : kin h (.ref t) (.ref u) = true := by simp [kin, clsOf_talk a, clsOf_talk b]
  have me : methOf P h (.ref t) strEqS = some ("Talk.__eq__" : Str) := a.m_eq
  simp only [cmpE, me, k, if_true, q]
  rfl
end K89
end

section
set_option Elab.async false
set_option linter.all false
set_option maxRecDepth 100000
set_option maxHeartbeats 2000000
namespace K89
open PySem L2 R
/-- a pen -/
def PenO (o : PO) : Prop := ∃ s : Int, o = .lst [.int s] ∧ 0 ≤ s ∧ s < 2 ^ 64
/-- a heap behind draws -/
structure Px (h h' : PH) : Prop where
  st : ∀ (i : Nat) (o : PO), h[i]? = some o → ¬PenO o → h'[i]? = some o
  pn : ∀ (i : Nat) (o : PO), h[i]? = some o → PenO o → ∃ o', h'[i]? = some o' ∧ PenO o'
theorem Px.refl (h : PH) : Px h h := ⟨fun _ _ e _ => e, fun _ o e k => ⟨o, e, k⟩⟩
theorem Px.trans {a b c : PH} (x : Px a b) (y : Px b c) : Px a c :=
  ⟨fun i o e k => y.st i o (x.st i o e k) k, fun i o e k => let ⟨o', e', k'⟩ := x.pn i o e k; y.pn i o' e' k'⟩
theorem Px.of {h h' : PH} (x : Ex h h') : Px h h' := ⟨fun i o e _ => x i o e, fun i o e k => ⟨o, x i o e, k⟩⟩
theorem Px.app (h g : PH) : Px h (h ++ g) := .of (Ex.app h g)
theorem Px.len {h h' : PH} (x : Px h h') : h.length ≤ h'.length := by
  cases hn : h.length with
  | zero => exact Nat.zero_le _
  | succ n =>
    have e : h[n]? = some (h[n]'(by omega)) := List.getElem?_eq_getElem _
    have : ∃ o, h'[n]? = some o := by
      by_cases k : PenO (h[n]'(by omega))
      · obtain ⟨o, e, _⟩ := x.pn n _ e k
        exact ⟨o, e⟩
      · exact ⟨_, x.st n _ e k⟩
    obtain ⟨o, e⟩ := this
    have := (List.getElem?_eq_some_iff.mp e).1
    omega
theorem Px.set {h h' : PH} {L : Nat} {o : PO} (x : Px h h') (hl : h.length ≤ L) : Px h (h'.set L o) :=
  ⟨fun i o' e k => by
    have := (List.getElem?_eq_some_iff.mp e).1
    rw [List.getElem?_set_ne (by omega)]
    exact x.st i o' e k, fun i o' e k => by
    have := (List.getElem?_eq_some_iff.mp e).1
    rw [List.getElem?_set_ne (by omega)]
    exact x.pn i o' e k⟩
/-- a pen at a place -/
def Pen (h : PH) (p : Nat) : Prop := ∃ o, h[p]? = some o ∧ PenO o
theorem Pen.px {h h' : PH} {p : Nat} (a : Pen h p) (x : Px h h') : Pen h' p := let ⟨o, e, k⟩ := a; x.pn p o e k
/-- no pen's list -/
def NoP (l : List PV) : Prop := ∀ s : Int, l ≠ [.int s]
theorem NoP.o {l : List PV} (n : NoP l) : ¬PenO (.lst l) := fun ⟨s, e, _⟩ => n s (by injection e)
theorem nop_nil : NoP [] := fun s e => by cases e
theorem nop_two {a b : PV} {l : List PV} : NoP (a :: b :: l) := fun s e => by cases e
theorem nop_of {l : List PV} (h : ∀ x ∈ l, ∀ s, x ≠ .int s) : NoP l := fun s e => h (.int s) (by rw [e]; exact List.mem_cons_self) s rfl
theorem nop_strs {l : List Str} : NoP (l.map .str) := nop_of fun x hx s e => by
  obtain ⟨y, _, rfl⟩ := List.mem_map.mp hx
  cases e
theorem nop_vS {l : List OS} : NoP (l.map vS) := nop_of fun x hx s e => by
  obtain ⟨y, _, rfl⟩ := List.mem_map.mp hx
  cases y <;> cases e
theorem nop_rules {l : List Rule} : NoP (l.map ruleV) := nop_of fun x hx s e => by
  obtain ⟨y, _, rfl⟩ := List.mem_map.mp hx
  cases e
theorem Px.lst {h h' : PH} {n : Nat} {l : List PV} (x : Px h h') (e : h[n]? = some (.lst l)) (k : NoP l) : h'[n]? = some (.lst l) := x.st n _ e k.o
theorem seq_px {h h' : PH} {v : PV} {l : List PV} (s : SeqV h v l) (x : Px h h') (k : NoP l) : SeqV h' v l := s.imp id fun ⟨n, e, g⟩ => ⟨n, e, x.lst g k⟩
theorem talk_px {h h' : PH} {t : Nat} {T : Tk} (a : TalkAt h t T) (x : Px h h') : TalkAt h' t T := x.st t _ a fun ⟨s, e, _⟩ => by cases e
theorem setIx_sat {F : FF} {o i e : E} {sl : Sl} {h : PH} {D : Po} (he : sat (ev P F e sl h) fun v h1 => sat (ev P F o sl h1) fun x h2 => sat (ev P F i sl h2) fun k h3 => ∃ n l z j, x = .ref n ∧ k = .int z ∧ h3[n]? = some (.lst l) ∧ ixN l.length z = some j ∧ D.nx sl (h3.set n (.lst (l.set j v)))) :
    osat (ex P F (.setIx o i e) sl h) D := by
  simp only [ex, osat_out]
  refine sat_mono he fun v h1 s1 => sat_mono s1 fun x h2 s2 => sat_mono s2 fun k h3 ⟨n, l, z, j, e1, e2, e3, e4, q⟩ => ?_
  subst e1 e2
  simp only [e3, e4]
  exact q
theorem ife_sat {F : FF} {c : E} {t f : List S} {sl : Sl} {h : PH} {D : Po} (s : sat (ev P F c sl h) fun x h' => (tru h' x = some true ∧ osat (exs P F t sl h') D) ∨ (tru h' x = some false ∧ osat (exs P F f sl h') D)) : osat (ex P F (.ife c t f) sl h) D := by
  simp only [ex, osat_out, tst, sat_bind]
  refine sat_mono s fun x h' q => ?_
  rcases q with ⟨e, q⟩ | ⟨e, q⟩
  · rw [e]; exact q
  · rw [e]; exact q
theorem ife_t {F : FF} {c : E} {t f : List S} {sl : Sl} {h : PH} {D : Po} (s : sat (ev P F c sl h) fun x h' => tru h' x = some true ∧ osat (exs P F t sl h') D) : osat (ex P F (.ife c t f) sl h) D := ife_sat (sat_mono s fun _ _ q => .inl q)
theorem ife_f {F : FF} {c : E} {t f : List S} {sl : Sl} {h : PH} {D : Po} (s : sat (ev P F c sl h) fun x h' => tru h' x = some false ∧ osat (exs P F f sl h') D) : osat (ex P F (.ife c t f) sl h) D := ife_sat (sat_mono s fun _ _ q => .inr q)
theorem e_draw : P.fn "_law_draw" = some d__law_draw := by rfl
theorem s_draw (n : Nat) {h : PH} {p : Nat} {Q : PV → PH → Prop} (a : Pen h p) (m : Int) (hm : m.natAbs ≤ Big) (q : ∀ (k : Nat) (h' : PH), Px h h' → (1 ≤ m → (k : Int) < m) → (m < 1 → k = 0) → Q (.int k) h') : sat (Fn P (n + 1) "_law_draw" [.ref p, .int m] h) Q := by
  refine sat_fn e_draw rfl ?_
  obtain ⟨o, e, s, rfl, s0, s1⟩ := a
  by_cases h1 : m < 1
  · simp [d__law_draw, exs, ex, tst, h1]
    exact q 0 h (Px.refl _) (fun h2 => by omega) fun _ => rfl
  · have m1 : ∀ h : PH, doBin .mul (.int s) (.int 6364136223846793005) h = .ok (.int (s * 6364136223846793005)) h := fun h => q_mul_int (by
      have h3 : s.natAbs.log2 ≤ (2 ^ 64 : Nat).log2 := log2_mono (by omega)
      have h4 : (2 ^ 64 : Nat).log2 = 64 := Nat.log2_two_pow
      have h5 : (6364136223846793005 : Int).natAbs.log2 ≤ (2 ^ 64 : Nat).log2 := log2_mono (by decide)
      omega)
    have pw : ∀ h : PH, doBin .pow (.int 2) (.int 64) h = .ok (.int 18446744073709551616) h := fun h => by
      simp only [doBin]
      rw [if_pos (by decide)]
      rfl
    have m2 : ∀ h : PH, doBin .mod (.int (s * 6364136223846793005 + 1442695040888963407)) (.int 18446744073709551616) h = _ := fun h => q_mod_int (by decide)
    have e2 := q_ix_ref 0 e
    have hp := (List.getElem?_eq_some_iff.mp e).1
    generalize hz : (s * 6364136223846793005 + 1442695040888963407) % 18446744073709551616 = z at m2
    have z0 : 0 ≤ z := by rw [← hz]; exact Int.emod_nonneg _ (by decide)
    have z1 : z < 2 ^ 64 := by rw [← hz]; exact Int.emod_lt_of_pos _ (by decide)
    have g : (h.set p (.lst [.int z]))[p]? = some (.lst [.int z]) := List.getElem?_set_self hp
    have e3 := q_ix_ref 0 g
    have f1 := q_fdivB (h := h.set p (.lst [.int z])) (a := z) (b := 65537) (by decide) (sm_big (by decide))
    have m3 := q_mod_int (h := h.set p (.lst [.int z])) (a := z / 65537) (b := m) (by omega)
    have ix : ixN 1 0 = some 0 := by rfl
    have fin : Q (.int (z / 65537 % m)) (h.set p (.lst [.int z])) := by
      have := q ((z / 65537) % m).toNat (h.set p (.lst [.int z])) ⟨fun i o' e' k => ?_, fun i o' e' k => ?_⟩ (fun _ => ?_) (fun z => absurd z h1)
      · rwa [Int.toNat_of_nonneg (Int.emod_nonneg _ (by omega))] at this
      · have : i ≠ p := fun q => by
          subst q
          rw [e] at e'
          cases e'
          exact k ⟨s, rfl, s0, s1⟩
        rw [List.getElem?_set_ne (Ne.symm this)]
        exact e'
      · by_cases q : i = p
        · subst q
          exact ⟨_, g, z, rfl, z0, z1⟩
        · rw [List.getElem?_set_ne (Ne.symm q)]
          exact ⟨o', e', k⟩
      · rw [Int.toNat_of_nonneg (Int.emod_nonneg _ (by omega))]
        exact Int.emod_lt_of_pos _ (by omega)
    simp only [d__law_draw, exs, osat_bind, List.map_cons, List.map_nil, List.length_cons, List.length_nil, List.cons_append, List.nil_append]
    refine ife_f ?_
    simp [h1]
    simp only [exs, osat_nx]
    refine setIx_sat (eq_sat (v := .int z) (h := h) (by simp [e2, m1, pw, m2]) (eq_sat (v := .ref p) (h := h) (by simp) (eq_sat (v := .int 0) (h := h) (by simp) ⟨p, [.int s], 0, 0, rfl, rfl, e, ix, ?_⟩)))
    simp [ex, e3, f1, m3]
    exact fin
/-- what sort of list may be drawn from -/
theorem e_pick : P.fn "_law_pick" = some d__law_pick := by rfl
theorem s_pick (n : Nat) {h : PH} {p : Nat} {v : PV} {l : List PV} {Q : PV → PH → Prop} (a : Pen h p) (s : SeqV h v l) (k : NoP l) (hl : 1 ≤ l.length) (hz : l.length ≤ 1000) (q : ∀ x ∈ l, ∀ h', Px h h' → Q x h') : sat (Fn P (n + 2) "_law_pick" [.ref p, v] h) Q := by
  refine sat_fn e_pick rfl ?_
  have ln := s.len
  simp [d__law_pick, exs, ex, ln]
  refine s_draw n a _ (sm_big (by simp; omega)) fun j h' x h1 _ => ?_
  have s' := seq_px s x k
  have hj : j < l.length := by have := h1 (by omega); omega
  rw [s'.ix, atI_of hj]
  exact q _ (List.getElem_mem _) h' x
end K89
end

section
set_option Elab.async false
set_option linter.all false
set_option maxRecDepth 100000
set_option maxHeartbeats 2000000
namespace K89
open PySem L2 R
theorem e_pen : P.fn "_law_pen" = some d__law_pen := by rfl
theorem s_pen (n : Nat) (ns : List Int) {h : PH} : sat (Fn P (n + 1) "_law_pen" [.fro (ns.map .int)] h) fun v h' => ∃ p, v = .ref p ∧ Pen h' p := by
  refine sat_fn e_pen rfl ?_
  simp only [d__law_pen, exs, osat_bind, List.map_cons, List.map_nil, List.length_cons, List.length_nil, List.cons_append, List.nil_append]
  refine set_sat ?_
  simp only [v_con, sat_ok, osat_nx]
  refine forx (r := .its (ns.map .int)) (h' := h) (by simp [evIt]) ?_
  refine for_all (l := (ns.map PV.int).map .one) (Inv := fun pre s h' => h' = h ∧ ∃ z x, s = [some (.fro (ns.map .int)), some (.int z), x] ∧ 0 ≤ z ∧ z < 2 ^ 61) ⟨rfl, 90012, none, rfl, by decide, by decide⟩ (fun pre s h' I => yields_its _ _) ?_ ?_
  · rintro pre x post s h' hl ⟨rfl, z, y, rfl, z0, z1⟩
    have hx : x ∈ (ns.map PV.int).map Itm.one := by rw [hl]; simp
    rw [List.map_map, List.mem_map] at hx
    obtain ⟨c, _, rfl⟩ := hx
    refine ⟨_, rfl, ?_⟩
    have m1 : doBin .mul (.int z) (.int 1000003) h' = .ok (.int (z * 1000003)) h' := q_mul_int (by
      have h3 : z.natAbs.log2 ≤ (2 ^ 64 : Nat).log2 := log2_mono (by omega)
      have h4 : (2 ^ 64 : Nat).log2 = 64 := Nat.log2_two_pow
      have h5 : (1000003 : Int).natAbs.log2 ≤ (2 ^ 64 : Nat).log2 := log2_mono (by decide)
      omega)
    have pw1 : doBin .pow (.int 10) (.int 18) h' = .ok (.int 1000000000000000000) h' := by
      simp only [doBin]
      rw [if_pos (by decide)]
      rfl
    have pw2 : doBin .pow (.int 2) (.int 61) h' = .ok (.int 2305843009213693952) h' := by
      simp only [doBin]
      rw [if_pos (by decide)]
      rfl
    have m2 : doBin .mod (.int c) (.int 1000000000000000000) h' = _ := q_mod_int (by decide)
    have m3 : doBin .mod (.int (z * 1000003 + c % 1000000000000000000 + 12466)) (.int 2305843009213693951) h' = _ := q_mod_int (by decide)
    simp [exs, ex, m1, pw1, pw2, m2, m3]
    have := Int.emod_nonneg (z * 1000003 + c % 1000000000000000000 + 12466) (show (2305843009213693951 : Int) ≠ 0 by decide)
    have := Int.emod_lt_of_pos (z * 1000003 + c % 1000000000000000000 + 12466) (show (0 : Int) < 2305843009213693951 by decide)
    omega
  · rintro s h' ⟨rfl, z, y, rfl, z0, z1⟩
    simp [exs, ex, newF]
    exact ⟨_, get_new _ _, z, rfl, z0, by omega⟩
theorem q_pop {h : PH} {n k : Nat} {l : List PV} (e : h[n]? = some (.lst l)) (hk : k < l.length) (hz : l.length ≤ 1000) : doBm true .pop (.ref n) [.int (k : Nat)] h = .ok l[k] (h.set n (.lst (l.eraseIdx k))) := by
  have si : seqIndex? (k : Int) l.length = some k := by
    have h0 : ¬((k : Int) < 0) := by omega
    simp [seqIndex?, h0, hk]
  simp only [doBm, doBmL, e, mPop, si, List.getElem?_eq_getElem hk]
  rw [if_pos (by omega)]
theorem meth_lst {h : PH} {n : Nat} {l : List PV} {m : Str} (e : h[n]? = some (.lst l)) : methOf P h (.ref n) m = none := by simp [methOf, e]
theorem perm_erase : ∀ (l : List PV) (k : Nat) (hk : k < l.length), (l[k] :: l.eraseIdx k).Perm l
  | [], k, hk => absurd hk (Nat.not_lt_zero _)
  | a :: l, 0, _ => List.Perm.refl _
  | a :: l, k + 1, hk => (List.Perm.swap a (l[k]'(Nat.lt_of_succ_lt_succ hk)) (l.eraseIdx k)).trans ((perm_erase l k (Nat.lt_of_succ_lt_succ hk)).cons a)
structure MixI (p : Nat) (v : PV) (l : List PV) (h : PH) (m : Nat) (s : Sl) (h' : PH) : Prop where
  s : s = [some (.ref p), some v, some (.ref h.length), some (.ref (h.length + 1))]
  x : Px h h'
  r : ∃ l1 l2, l1.length = m ∧ h'[h.length]? = some (.lst l1) ∧ h'[h.length + 1]? = some (.lst l2) ∧ (l1 ++ l2).Perm l
theorem e_mixed : P.fn "_law_mixed" = some d__law_mixed := by rfl
theorem s_mixed (n : Nat) {h : PH} {p : Nat} {v : PV} {l : List PV} {Q : PV → PH → Prop} (a : Pen h p) (s : SeqV h v l) (ni : ∀ x ∈ l, ∀ s, x ≠ .int s) (hz : l.length ≤ 1000) (dv : ∀ x ∈ l, ∀ h, DV h 5 x)
    (q : ∀ (r : Nat) (m : List PV) (h' : PH), Px h h' → h.length ≤ r → h'[r]? = some (.lst m) → m.Perm l → Q (.ref r) h') : sat (Fn P (n + 2) "_law_mixed" [.ref p, v] h) Q := by
  refine sat_fn e_mixed rfl ?_
  simp only [d__law_mixed, exs, osat_bind, List.map_cons, List.map_nil, List.length_cons, List.length_nil, List.cons_append, List.nil_append]
  have sl := s.list
  simp [ex, sl, newF, setAll]
  have g1 : (h ++ [PO.lst l, PO.lst []])[h.length]? = some (.lst l) := by simp
  have g2 : (h ++ [PO.lst l, PO.lst []])[h.length + 1]? = some (.lst []) := by simp
  refine whl_sat (Inv := MixI p v l h) ?_ WF l.length _ _ (by unfold WF; omega) ⟨rfl, Px.app _ _, l, [], rfl, g1, g2, by simp⟩
  rintro _ _ h' ⟨rfl, x, l1, l2, rfl, e1, e2, pm⟩
  have sub1 : ∀ x ∈ l1, x ∈ l := fun x hx => pm.subset (List.mem_append_left _ hx)
  have sub2 : ∀ x ∈ l2, x ∈ l := fun x hx => pm.subset (List.mem_append_right _ hx)
  have ln : l1.length + l2.length = l.length := by rw [← List.length_append]; exact pm.length_eq
  have x1 : Ex h' (h' ++ [.lst []]) := Ex.app _ _
  have c := d_ne_nil (k := 5) (by decide) (x1 _ _ e1) (get_new h' (.lst [])) (fun x hx => dv x (sub1 x hx) _)
  simp [tst, newF, cmpE, meth_lst (x1 _ _ e1), c]
  generalize hg : h' ++ [PO.lst []] = g at *
  have xg : Px h g := x.trans (.of x1)
  have f1 := x1 _ _ e1
  have f2 := x1 _ _ e2
  cases l1 with
  | nil =>
    simp
    refine q _ l2 g xg (by omega) f2 (by simpa using pm)
  | cons y ys =>
    simp
    have b1 := q_bmK (m := .append) f2
    have b2 := q_bmK (m := .pop) f1
    have qn := q_len_ref f1
    simp only [List.length_cons, Int.natCast_add, Int.natCast_one] at qn
    simp [exs, ex, b1, b2, qn]
    refine s_draw n (a.px xg) _ (sm_big (by simp at ln; omega)) fun k g' y1 h1 _ => ?_
    have hk : k < (y :: ys).length := by have := h1 (by omega); simp; omega
    have k1 := y1.lst f1 (nop_of fun x hx => ni x (sub1 x hx))
    have k2 := y1.lst f2 (nop_of fun x hx => ni x (sub2 x hx))
    have qp := q_pop k1 hk (by omega)
    have k3 : (g'.set h.length (.lst ((y :: ys).eraseIdx k)))[h.length + 1]? = some (.lst l2) := by rw [List.getElem?_set_ne (by omega)]; exact k2
    have ap := q_append (x := (y :: ys)[k]) k3 (by unfold sizeL; simp at ln; omega)
    have hl1 := (List.getElem?_eq_some_iff.mp k1).1
    have hl2 := (List.getElem?_eq_some_iff.mp k3).1
    rw [qp]
    simp only [sat_ok, sat_bind]
    rw [ap]
    refine ⟨rfl, ((xg.trans y1).set (Nat.le_refl _)).set (Nat.le_succ _), (y :: ys).eraseIdx k, l2 ++ [(y :: ys)[k]], ?_, ?_, ?_, ?_⟩
    · rw [List.length_eraseIdx_of_lt hk]; rfl
    · rw [List.getElem?_set_ne (by omega), List.getElem?_set_self hl1]
    · exact List.getElem?_set_self hl2
    · refine List.Perm.trans ?_ pm
      have pe : ((y :: ys)[k] :: (y :: ys).eraseIdx k).Perm (y :: ys) := by
        exact perm_erase _ k hk
      rw [← List.append_assoc]
      refine List.Perm.trans List.perm_append_comm ?_
      rw [← List.append_assoc]
      exact List.Perm.append_right l2 pe
end K89
end

section
set_option Elab.async false
set_option linter.all false
set_option maxRecDepth 100000
set_option maxHeartbeats 2000000
namespace K89
open PySem L2 R
/-- a text of some, or nothing -/
def oS (L : List Str) : PV → Bool
  | .non => true
  | .str s => L.contains s
  | _ => false
theorem oS_some {L : List Str} {v : PV} (h : oS L v = true) : ∃ o, v = vS o ∧ ∀ s, o = some s → s ∈ L := by
  cases v with
  | non => exact ⟨none, rfl, fun s e => by cases e⟩
  | str s => exact ⟨some s, rfl, fun t e => by cases e; simpa [oS] using h⟩
  | _ => cases h
def isRb (ms ws : List Str) : PV → Bool
  | .tup [a, b, .str c, d, e, .bl _] => oS statuses a && oS ms b && (evs ws).contains c && oS ms d && oS (sGive :: ws) e
  | _ => false
theorem isR {ms ws : List Str} {v : PV} (h : isRb ms ws v = true) : ∃ r, v = ruleV r ∧ RuleOk ms ws r := by
  unfold isRb at h
  split at h
  · rename_i a b c d e f
    simp only [Bool.and_eq_true] at h
    obtain ⟨⟨⟨⟨h1, h2⟩, h3⟩, h4⟩, h5⟩ := h
    obtain ⟨a, rfl, a2⟩ := oS_some h1
    obtain ⟨b, rfl, b2⟩ := oS_some h2
    obtain ⟨d, rfl, d2⟩ := oS_some h4
    obtain ⟨e, rfl, e2⟩ := oS_some h5
    exact ⟨⟨a, b, c, d, e, f⟩, rfl, a2, b2, by simpa using h3, d2, fun s z => by simpa using e2 s z⟩
  · cases h
theorem r_is {ms ws : List Str} {r : Rule} (h : RuleOk ms ws r) : isRb ms ws (ruleV r) = true := by
  have o : ∀ {L : List Str} {x : OS}, (∀ s, x = some s → s ∈ L) → oS L (vS x) = true := fun {L x} k => by
    cases x with
    | none => rfl
    | some s => simpa [oS] using k s rfl
  simp only [isRb, ruleV, Bool.and_eq_true]
  exact ⟨⟨⟨⟨o h.st, o h.mood⟩, by simpa using h.ev⟩, o h.later⟩, o fun s e => by simpa using h.say s e⟩
def AllR (ms ws : List Str) (l : List PV) : Prop := ∀ x ∈ l, isRb ms ws x = true
theorem AllR.rs {ms ws : List Str} : ∀ {l : List PV}, AllR ms ws l → ∃ rs : List Rule, l = rs.map ruleV ∧ ∀ r ∈ rs, RuleOk ms ws r
  | [], _ => ⟨[], rfl, fun r h => absurd h List.not_mem_nil⟩
  | x :: l, h => by
    obtain ⟨r, e, k⟩ := isR (h x List.mem_cons_self)
    obtain ⟨rs, e2, k2⟩ := AllR.rs (l := l) fun y hy => h y (List.mem_cons_of_mem _ hy)
    subst e e2
    refine ⟨r :: rs, rfl, fun y hy => ?_⟩
    rcases List.mem_cons.mp hy with rfl | hy
    · exact k
    · exact k2 y hy
theorem AllR.ni {ms ws : List Str} {l : List PV} (h : AllR ms ws l) : ∀ x ∈ l, ∀ s, x ≠ .int s := fun x hx s e => by
  obtain ⟨r, e2, _⟩ := isR (h x hx)
  rw [e2] at e
  cases e
theorem AllR.nop {ms ws : List Str} {l : List PV} (h : AllR ms ws l) : NoP l := nop_of h.ni
theorem AllR.dv {ms ws : List Str} {l : List PV} (v : ValN ms ws) (h : AllR ms ws l) : ∀ x ∈ l, ∀ g, DV g 5 x := fun x hx g => by
  obtain ⟨r, rfl, k⟩ := isR (h x hx)
  exact (dv_rule (k.s v)).mono (by decide) (by decide)
theorem AllR.app {ms ws : List Str} {l m : List PV} (h : AllR ms ws l) (k : AllR ms ws m) : AllR ms ws (l ++ m) := fun x hx => (List.mem_append.mp hx).elim (h x) (k x)
/-- a list of rules -/
def LR (ms ws : List Str) (k : Nat) (h : PH) (n : Nat) : Prop := ∃ l, h[n]? = some (.lst l) ∧ AllR ms ws l ∧ l.length ≤ k
theorem LR.px {ms ws : List Str} {k : Nat} {h h' : PH} {n : Nat} (a : LR ms ws k h n) (x : Px h h') : LR ms ws k h' n := let ⟨l, e, r, z⟩ := a; ⟨l, x.lst e r.nop, r, z⟩
/-- a plain talk -/
def PlainAt (h : PH) (d : Nat) (T : Tk) : Prop := ∃ a b c : Nat, h[d]? = some (.dic [(Sum.inr "moods", .ref a), (Sum.inr "words", .ref b), (Sum.inr "rules", .ref c)]) ∧ h[a]? = some (.lst (T.moods.map .str)) ∧ h[b]? = some (.lst (T.words.map .str)) ∧ h[c]? = some (.lst (T.rules.map ruleV))
theorem dic_np {l : List (Key × PV)} : ¬PenO (.dic l) := fun ⟨s, e, _⟩ => by cases e
theorem PlainAt.px {h h' : PH} {d : Nat} {T : Tk} (p : PlainAt h d T) (x : Px h h') : PlainAt h' d T :=
  let ⟨a, b, c, e, e1, e2, e3⟩ := p
  ⟨a, b, c, x.st _ _ e dic_np, x.lst e1 nop_strs, x.lst e2 nop_strs, x.lst e3 nop_rules⟩
structure Drawn (h : PH) (v : PV) (h' : PH) : Prop where
  x : Px h h'
  r : ∃ d T, v = .ref d ∧ PlainAt h' d T ∧ ValT T ∧ T.rules.length ≤ 40
theorem Drawn.mono {h h1 : PH} {v : PV} {h' : PH} (x : Px h h1) (d : Drawn h1 v h') : Drawn h v h' := ⟨x.trans d.x, d.r⟩
theorem fin_plain {h0 h : PH} {ms ws : List Str} {a b c : Nat} (x : Px h0 h) (v : ValN ms ws) (e1 : h[a]? = some (.lst (ms.map .str))) (e2 : h[b]? = some (.lst (ws.map .str))) (e3 : LR ms ws 40 h c) :
    Drawn h0 (.ref h.length) (h ++ [.dic [(Sum.inr "moods", .ref a), (Sum.inr "words", .ref b), (Sum.inr "rules", .ref c)]]) := by
  obtain ⟨l, e3, r, z⟩ := e3
  obtain ⟨rs, rfl, k⟩ := r.rs
  have x1 := Ex.app h [.dic [(Sum.inr "moods", .ref a), (Sum.inr "words", .ref b), (Sum.inr "rules", .ref c)]]
  have zz : rs.length ≤ 40 := by simpa using z
  exact ⟨x.trans (.of x1), _, ⟨ms, ws, rs⟩, rfl, ⟨a, b, c, get_new _ _, x1 _ _ e1, x1 _ _ e2, x1 _ _ e3⟩, v.tk (by omega) k, zz⟩
/-- a plain talk of these moods and words -/
structure DrawnM (k : Nat) (h : PH) (ms ws : List Str) (v : PV) (h' : PH) : Prop where
  x : Px h h'
  r : ∃ d rs, v = .ref d ∧ PlainAt h' d ⟨ms, ws, rs⟩ ∧ ValT ⟨ms, ws, rs⟩ ∧ rs.length ≤ k
theorem DrawnM.mono {k : Nat} {h h1 : PH} {ms ws : List Str} {v : PV} {h' : PH} (x : Px h h1) (d : DrawnM k h1 ms ws v h') : DrawnM k h ms ws v h' := ⟨x.trans d.x, d.r⟩
theorem DrawnM.le {k m : Nat} {h : PH} {ms ws : List Str} {v : PV} {h' : PH} (d : DrawnM k h ms ws v h') (l : k ≤ m) : DrawnM m h ms ws v h' :=
  let ⟨d1, rs, a, b, c, e⟩ := d.r
  ⟨d.x, d1, rs, a, b, c, Nat.le_trans e l⟩
theorem DrawnM.d {h : PH} {ms ws : List Str} {v : PV} {h' : PH} (d : DrawnM 40 h ms ws v h') : Drawn h v h' :=
  let ⟨d1, rs, a, b, c, e⟩ := d.r
  ⟨d.x, d1, ⟨ms, ws, rs⟩, a, b, c, e⟩
theorem fin_plainM {q : Nat} (hq : q ≤ 90) {h0 h : PH} {ms ws : List Str} {a b c : Nat} (x : Px h0 h) (v : ValN ms ws) (e1 : h[a]? = some (.lst (ms.map .str))) (e2 : h[b]? = some (.lst (ws.map .str))) (e3 : LR ms ws q h c) :
    DrawnM q h0 ms ws (.ref h.length) (h ++ [.dic [(Sum.inr "moods", .ref a), (Sum.inr "words", .ref b), (Sum.inr "rules", .ref c)]]) := by
  obtain ⟨l, e3, r, z⟩ := e3
  obtain ⟨rs, rfl, k⟩ := r.rs
  have x1 := Ex.app h [.dic [(Sum.inr "moods", .ref a), (Sum.inr "words", .ref b), (Sum.inr "rules", .ref c)]]
  have zz : rs.length ≤ q := by simpa using z
  exact ⟨x.trans (.of x1), _, rs, rfl, ⟨a, b, c, get_new _ _, x1 _ _ e1, x1 _ _ e2, x1 _ _ e3⟩, v.tk (by omega) k, zz⟩
theorem evs_con {F : FF} {sl : Sl} {h : PH} : ∀ cs : List PV, R.evs P F (cs.map .con) sl h = .ok cs h
  | [] => by simp
  | c :: cs => by
    rw [List.map_cons, q_evs_con, v_con, Rs.bind_ok, evs_con cs]
    rfl
theorem evs_cons {F : FF} {e : E} (ns : isSt e = false) (es : List E) (sl : Sl) (h : PH) : R.evs P F (e :: es) sl h = (ev P F e sl h).bind fun x h => (R.evs P F es sl h).bind fun r h => .ok (x :: r) h := by
  cases e <;> first
    | cases ns; done
    | simp only [R.evs]
theorem p_pick {n : Nat} {e : E} {sl : Sl} {h : PH} {p : Nat} {Q : PV → PH → Prop} (ns : isSt e = false) (h0 : sl.getD 0 none = some (.ref p)) (a : Pen h p)
    (he : sat (ev P (Fn P (n + 2)) e sl h) fun v h1 => (Px h h1 ∧ ∃ l, SeqV h1 v l ∧ NoP l ∧ 1 ≤ l.length ∧ l.length ≤ 1000 ∧ ∀ x ∈ l, ∀ h', Px h1 h' → Q x h')) : sat (ev P (Fn P (n + 2)) (.fn "_law_pick" [(.var 0), e]) sl h) Q := by
  rw [v_fn, q_evs_var, v_var, h0]
  simp only [rs_of_some, Rs.bind_ok, sat_bind]
  rw [evs_cons ns]
  simp only [q_evs_nil, Rs.bind_ok]
  simp only [sat_bind, sat_ok]
  refine sat_mono he fun v h1 ⟨x, l, s, k, l1, l2, q⟩ => ?_
  exact s_pick n (a.px x) s k l1 l2 q
theorem p_pickC {n : Nat} {sl : Sl} {h : PH} {p : Nat} {Q : PV → PH → Prop} (cs : List PV) (h0 : sl.getD 0 none = some (.ref p)) (a : Pen h p) (k : NoP cs) (l1 : 1 ≤ cs.length) (l2 : cs.length ≤ 1000)
    (q : ∀ x ∈ cs, ∀ h', Px h h' → Q x h') : sat (ev P (Fn P (n + 2)) (.fn "_law_pick" [(.var 0), .lst false (cs.map .con)]) sl h) Q := by
  refine p_pick rfl h0 a (eq_sat (v := .ref h.length) (h := h ++ [.lst cs]) ?_ ⟨Px.app _ _, cs, .inr ⟨_, rfl, get_new _ _⟩, k, l1, l2, fun x hx h' y => q x hx h' ((Px.app _ _).trans y)⟩)
  rw [v_lst, evs_con, Rs.bind_ok, if_pos (by unfold sizeL; omega)]
  rfl
theorem p_draw {n : Nat} {e : E} {sl : Sl} {h : PH} {p : Nat} {Q : PV → PH → Prop} (ns : isSt e = false) (h0 : sl.getD 0 none = some (.ref p)) (a : Pen h p)
    (he : sat (ev P (Fn P (n + 1)) e sl h) fun v h1 => (Px h h1 ∧ ∃ m : Int, v = .int m ∧ m.natAbs ≤ Big ∧ ∀ (k : Nat) (h' : PH), Px h1 h' → (1 ≤ m → (k : Int) < m) → (m < 1 → k = 0) → Q (.int k) h')) : sat (ev P (Fn P (n + 1)) (.fn "_law_draw" [(.var 0), e]) sl h) Q := by
  rw [v_fn, q_evs_var, v_var, h0]
  simp only [rs_of_some, Rs.bind_ok, sat_bind]
  rw [evs_cons ns]
  simp only [q_evs_nil, Rs.bind_ok]
  simp only [sat_bind, sat_ok]
  refine sat_mono he fun v h1 ⟨x, m, e, l1, q⟩ => ?_
  subst e
  exact s_draw n (a.px x) m l1 q
/-- a drawn number below a small one -/
theorem p_drawC {n : Nat} {sl : Sl} {h : PH} {p : Nat} {Q : PV → PH → Prop} (m : Nat) (h0 : sl.getD 0 none = some (.ref p)) (a : Pen h p) (m1 : 1 ≤ m) (m2 : m ≤ 1000)
    (q : ∀ k < m, ∀ h', Px h h' → Q (.int (k : Nat)) h') : sat (ev P (Fn P (n + 1)) (.fn "_law_draw" [(.var 0), .con (.int (m : Nat))]) sl h) Q :=
  p_draw rfl h0 a (eq_sat (v := .int (m : Nat)) (h := h) (by simp) ⟨Px.refl _, m, rfl, sm_big (by simp; omega), fun k h' x l _ => q k (by have := l (by omega); omega) h' x⟩)
/-- moods and words, looked at -/
def nmB (s : Str) : Bool := decide (1 ≤ s.length) && decide (s.length ≤ 8) && s.cps.toList.all fun c => letters.cps.toList.contains c
theorem nmB_ok {s : Str} (h : nmB s = true) : Nm s := by
  simp only [nmB, Bool.and_eq_true, decide_eq_true_eq, List.all_eq_true, List.contains_iff_mem] at h
  exact ⟨h.1.1, h.1.2, h.2⟩
def valNb (ms ws : List Str) : Bool := decide (1 ≤ ms.length) && decide (ms.length ≤ 5) && decide ms.Nodup && decide (ws.length ≤ 4) && decide (evs ws).Nodup && ms.all nmB && ws.all nmB && (ws.zip (ws.drop 1)).all fun p => decide (p.1.cps.toList < p.2.cps.toList)
theorem valN {ms ws : List Str} (h : valNb ms ws = true) : ValN ms ws := by
  simp only [valNb, Bool.and_eq_true, decide_eq_true_eq, List.all_eq_true] at h
  obtain ⟨⟨⟨⟨⟨⟨⟨h1, h2⟩, h3⟩, h4⟩, h5⟩, h6⟩, h7⟩, h8⟩ := h
  exact ⟨⟨h1, h2, h3, h4, h5⟩, fun s hs => nmB_ok (h6 s hs), fun s hs => nmB_ok (h7 s hs), h8⟩
def sA : Str := "a"
def sB : Str := "b"
def sC : Str := "c"
def sTell : Str := "tell"
def sWant : Str := "want"
def mAB : List Str := ["a", "b"]
def wTW : List Str := ["tell", "want"]
def wT : List Str := ["tell"]
theorem v_ab_tw : ValN mAB wTW := valN (by decide +kernel)
theorem v_ab_t : ValN mAB wT := valN (by decide +kernel)
theorem allR_of {ms ws : List Str} {l : List PV} (h : l.all (isRb ms ws) = true) : AllR ms ws l := by simpa [AllR] using h
theorem AllR.set {ms ws : List Str} {l : List PV} {i : Nat} {x : PV} (h : AllR ms ws l) (hx : isRb ms ws x = true) : AllR ms ws (l.set i x) := fun y hy => by
  rcases List.mem_or_eq_of_mem_set hy with hy | rfl
  · exact h y hy
  · exact hx
end K89
end

section
set_option Elab.async false
set_option linter.all false
set_option maxRecDepth 100000
set_option maxHeartbeats 2000000
namespace K89
open PySem L2 R
def ra (a b c d e : PV) (f : Bool) : PV := .tup [a, b, c, d, e, .bl f]
def ask0 : PV := ra (.str "have") .non (.str "beat") .non (.str "tell") true
def ask1 : PV := ra (.str "lack") .non (.str "tell") .non (.str "want") true
def ask2 : PV := ra (.str "have") .non (.str "want") .non (.str "give") true
def askP : List PV := [ask0, ra (.str "have") (.str "b") (.str "want") (.str "b") (.str "give") true, ra (.str "have") .non (.str "want") (.str "b") (.str "give") true, ra (.str "have") (.str "a") (.str "beat") .non (.str "tell") true]
def askQ : List PV := [ra (.str "lack") .non (.str "give") .non (.str "tell") false]
def askR : List PV := [ra (.str "lack") .non (.str "give") .non (.str "tell") true, ra (.str "have") .non (.str "tell") (.str "b") .non true]
theorem ask_rs : AllR mAB wTW [ask0, ask1, ask2] ∧ AllR mAB wTW askP ∧ AllR mAB wTW askQ ∧ AllR mAB wTW askR := ⟨allR_of (by decide +kernel), allR_of (by decide +kernel), allR_of (by decide +kernel), allR_of (by decide +kernel)⟩
theorem e_asking : P.fn "_law_asking" = some d__law_asking := by rfl
def DicQ (h0 : PH) (ms ws : List Str) (x1 x2 x3 : PV) (h3 : PH) : Prop := ∃ a b c, x1 = .ref a ∧ x2 = .ref b ∧ x3 = .ref c ∧ Px h0 h3 ∧ h3[a]? = some (.lst (ms.map .str)) ∧ h3[b]? = some (.lst (ws.map .str)) ∧ LR ms ws 40 h3 c
/-- the dict of a plain talk, made -/
theorem dic_sat {F : FF} {e1 e2 e3 : E} {sl : Sl} {h0 h : PH} {ms ws : List Str} (n1 : isSt e1 = false) (n2 : isSt e2 = false) (n3 : isSt e3 = false) (v : ValN ms ws)
    (he : sat (ev P F e1 sl h) fun x1 h1 => sat (ev P F e2 sl h1) fun x2 h2 => sat (ev P F e3 sl h2) fun x3 h3 => DicQ h0 ms ws x1 x2 x3 h3) :
    sat (ev P F (.dic ["moods", "words", "rules"] [e1, e2, e3]) sl h) (Drawn h0) := by
  rw [v_dic, evs_cons n1, sat_bind, sat_bind]
  refine sat_mono he fun x1 h1 s1 => ?_
  rw [evs_cons n2, sat_bind, sat_bind]
  refine sat_mono s1 fun x2 h2 s2 => ?_
  rw [evs_cons n3, sat_bind, sat_bind]
  refine sat_mono s2 fun x3 h3 ⟨a, b, c, q1, q2, q3, x, g1, g2, g3⟩ => ?_
  subst q1 q2 q3
  simp
  exact fin_plain x v g1 g2 g3
def DicM (k : Nat) (h0 : PH) (ms ws : List Str) (x1 x2 x3 : PV) (h3 : PH) : Prop := ∃ a b c, x1 = .ref a ∧ x2 = .ref b ∧ x3 = .ref c ∧ Px h0 h3 ∧ h3[a]? = some (.lst (ms.map .str)) ∧ h3[b]? = some (.lst (ws.map .str)) ∧ LR ms ws k h3 c
theorem dic_satM {F : FF} {k : Nat} (hk : k ≤ 90) {e1 e2 e3 : E} {sl : Sl} {h0 h : PH} {ms ws : List Str} (n1 : isSt e1 = false) (n2 : isSt e2 = false) (n3 : isSt e3 = false) (v : ValN ms ws)
    (he : sat (ev P F e1 sl h) fun x1 h1 => sat (ev P F e2 sl h1) fun x2 h2 => sat (ev P F e3 sl h2) fun x3 h3 => DicM k h0 ms ws x1 x2 x3 h3) :
    sat (ev P F (.dic ["moods", "words", "rules"] [e1, e2, e3]) sl h) (DrawnM k h0 ms ws) := by
  rw [v_dic, evs_cons n1, sat_bind, sat_bind]
  refine sat_mono he fun x1 h1 s1 => ?_
  rw [evs_cons n2, sat_bind, sat_bind]
  refine sat_mono s1 fun x2 h2 s2 => ?_
  rw [evs_cons n3, sat_bind, sat_bind]
  refine sat_mono s2 fun x3 h3 ⟨a, b, c, q1, q2, q3, x, g1, g2, g3⟩ => ?_
  subst q1 q2 q3
  simp
  exact fin_plainM hk x v g1 g2 g3
theorem s_asking (n : Nat) {h : PH} {p : Nat} (a : Pen h p) : sat (Fn P (n + 3) "_law_asking" [.ref p] h) (Drawn h) := by
  refine sat_fn e_asking rfl ?_
  obtain ⟨r1, r2, r3, r4⟩ := ask_rs
  simp only [d__law_asking, exs, osat_bind, List.map_cons, List.map_nil, List.length_cons, List.length_nil, List.cons_append, List.nil_append]
  refine set_sat (eq_sat (v := .ref h.length) (h := h ++ [.lst [ask0, ask1, ask2]]) (by simp [newF, ask0, ask1, ask2, ra]) ?_)
  have x1 : Px h (h ++ [.lst [ask0, ask1, ask2]]) := Px.app _ _
  have g1 := get_new h (.lst [ask0, ask1, ask2])
  have hlen : h.length < (h ++ [PO.lst [ask0, ask1, ask2]]).length := by simp
  generalize h ++ [PO.lst [ask0, ask1, ask2]] = h1 at *
  refine setIx_sat (p_pick rfl rfl (a.px x1) (eq_sat (v := .ref h1.length) (h := h1 ++ [.lst askP]) (by simp [newF, askP, ra, q_ix_ref _ g1]) ⟨Px.app _ _, askP, .inr ⟨_, rfl, get_new _ _⟩, r2.nop, by decide, by decide, fun x hx h2 x2 => ?_⟩))
  have x12 : Px h1 h2 := (Px.app _ _).trans x2
  have g2 := x12.lst g1 r1.nop
  refine eq_sat (v := .ref h.length) (h := h2) (by simp) (p_drawC (n := n + 1) 3 rfl (a.px (x1.trans x12)) (by decide) (by decide) fun k hk h3 x3 => ?_)
  have g3 := x3.lst g2 r1.nop
  have hk3 : ixN 3 (k : Int) = some k := by
    have : k = 0 ∨ k = 1 ∨ k = 2 := by omega
    rcases this with rfl | rfl | rfl <;> rfl
  refine ⟨h.length, _, _, k, rfl, rfl, g3, hk3, ?_⟩
  have x4 : Px h (h3.set h.length (.lst ([ask0, ask1, ask2].set k x))) := (x1.trans (x12.trans x3)).set (Nat.le_refl _)
  have g4 : (h3.set h.length (.lst ([ask0, ask1, ask2].set k x)))[h.length]? = some (.lst ([ask0, ask1, ask2].set k x)) := List.getElem?_set_self (List.getElem?_eq_some_iff.mp g3).1
  have r5 : AllR mAB wTW ([ask0, ask1, ask2].set k x) := r1.set (r2 x hx)
  have l5 : ([ask0, ask1, ask2].set k x).length = 3 := by simp
  generalize [ask0, ask1, ask2].set k x = l at *
  generalize h3.set h.length (.lst l) = h4 at *
  refine set_sat ?_
  rw [v_bin, sat_bind, v_var]
  simp only [List.set_cons_succ, List.set_cons_zero, List.getD_cons_succ, List.getD_cons_zero, rs_of_some, sat_ok, sat_bind]
  refine p_pick rfl rfl (a.px x4) (eq_sat (v := .ref (h4.length + 3)) (h := h4 ++ [.lst [], .lst askQ, .lst askR, .lst [.ref h4.length, .ref (h4.length + 1), .ref (h4.length + 2)]]) (by simp [newF, askQ, askR, ra]) ⟨Px.app _ _, [.ref h4.length, .ref (h4.length + 1), .ref (h4.length + 2)], .inr ⟨_, rfl, (by simp)⟩, nop_two, by simp, by simp, fun x hx h5 x5 => ?_⟩)
  have y1 : (h4 ++ [.lst [], .lst askQ, .lst askR, .lst [PV.ref h4.length, .ref (h4.length + 1), .ref (h4.length + 2)]])[h4.length]? = some (.lst []) := by simp
  have y2 : (h4 ++ [.lst [], .lst askQ, .lst askR, .lst [PV.ref h4.length, .ref (h4.length + 1), .ref (h4.length + 2)]])[h4.length + 1]? = some (.lst askQ) := by simp
  have y3 : (h4 ++ [.lst [], .lst askQ, .lst askR, .lst [PV.ref h4.length, .ref (h4.length + 1), .ref (h4.length + 2)]])[h4.length + 2]? = some (.lst askR) := by simp
  have xp : ∃ m l', x = .ref m ∧ h5[m]? = some (.lst l') ∧ AllR mAB wTW l' ∧ l'.length ≤ 2 := by
    simp only [List.mem_cons, List.not_mem_nil, or_false] at hx
    rcases hx with rfl | rfl | rfl
    · exact ⟨_, _, rfl, x5.lst y1 nop_nil, fun x hx => absurd hx List.not_mem_nil, by decide⟩
    · exact ⟨_, _, rfl, x5.lst y2 r3.nop, r3, by decide⟩
    · exact ⟨_, _, rfl, x5.lst y3 r4.nop, r4, by decide⟩
  obtain ⟨m, l', rfl, y4, r6, l6⟩ := xp
  have x45 : Px h4 h5 := (Px.app _ _).trans x5
  have g5 := x45.lst g4 r5.nop
  have lz : l.length + l'.length ≤ sizeL := by unfold sizeL; omega
  simp only [doBin, g5, y4]
  rw [if_pos lz]
  simp only [newO_eq, sat_ok]
  have r7 := r5.app r6
  have l7 : (l ++ l').length ≤ 40 := by rw [List.length_append]; omega
  generalize l ++ l' = l8 at *
  have g6 := get_new h5 (.lst l8)
  have x6 : Px h (h5 ++ [.lst l8]) := (x4.trans x45).trans (Px.app _ _)
  generalize h5 ++ [PO.lst l8] = h6 at *
  refine ret_sat (dic_sat rfl rfl rfl v_ab_tw ?_)
  refine eq_sat (v := .ref h6.length) (h := h6 ++ [.lst (mAB.map PV.str)]) (by simp [newF, mAB]) ?_
  have g7 := get_new h6 (.lst (mAB.map PV.str))
  have x7 : Px h6 (h6 ++ [.lst (mAB.map PV.str)]) := Px.app _ _
  generalize h6 ++ [PO.lst (mAB.map PV.str)] = h7 at *
  refine eq_sat (v := .ref h7.length) (h := h7 ++ [.lst (wTW.map PV.str)]) (by simp [newF, wTW]) ?_
  have g8 := get_new h7 (.lst (wTW.map PV.str))
  have x8 : Px h7 (h7 ++ [.lst (wTW.map PV.str)]) := Px.app _ _
  generalize h7 ++ [PO.lst (wTW.map PV.str)] = h8 at *
  have x68 := x7.trans x8
  have lr : LR mAB wTW 40 h8 h5.length := ⟨l8, x68.lst g6 r7.nop, r7, l7⟩
  rw [v_ite, v_cmp, sat_bind, sat_bind]
  refine p_drawC (n := n + 1) 3 rfl (a.px (x6.trans x68)) (by decide) (by decide) fun k2 hk2 h9 x9 => ?_
  simp
  cases hb : ((k2 : Int) == 0) with
  | false =>
    simp
    exact ⟨h6.length, h7.length, h5.length, rfl, rfl, rfl, (x6.trans x68).trans x9, (x8.trans x9).lst g7 nop_strs, x9.lst g8 nop_strs, lr.px x9⟩
  | true =>
    simp
    have xx := (x6.trans x68).trans x9
    obtain ⟨l9, g9, r9, z9⟩ := lr.px x9
    refine s_mixed n (a.px xx) (.inr ⟨_, rfl, g9⟩) r9.ni (by omega) (r9.dv v_ab_tw) fun r m' h10 x10 _ g10 pm => ?_
    refine ⟨h6.length, h7.length, r, rfl, rfl, rfl, xx.trans x10, ((x8.trans x9).trans x10).lst g7 nop_strs, (x9.trans x10).lst g8 nop_strs, m', g10, fun x hx => r9 x (pm.subset hx), ?_⟩
    rw [pm.length_eq]
    exact z9
end K89
end

section
set_option Elab.async false
set_option linter.all false
set_option maxRecDepth 100000
set_option maxHeartbeats 2000000
namespace K89
open PySem L2 R
theorem isRb_mk {ms ws : List Str} {a b d e : PV} {c : Str} {f : Bool} (h1 : oS statuses a = true) (h2 : oS ms b = true) (h3 : (evs ws).contains c = true) (h4 : oS ms d = true) (h5 : oS (sGive :: ws) e = true) : isRb ms ws (.tup [a, b, .str c, d, e, .bl f]) = true := by
  simp only [isRb, h1, h2, h3, h4, h5]
  rfl
theorem all_o {L : List Str} {cs : List PV} (h : cs.all (oS L) = true) : ∀ x ∈ cs, oS L x = true := by simpa using h
theorem allR2 {ms ws : List Str} {a b : PV} (h1 : isRb ms ws a = true) (h2 : isRb ms ws b = true) : AllR ms ws [a, b] := fun x hx => by
  simp only [List.mem_cons, List.not_mem_nil, or_false] at hx
  rcases hx with rfl | rfl
  · exact h1
  · exact h2
theorem e_sure : P.fn "_law_sure" = some d__law_sure := by rfl
theorem fin_dic {n : Nat} {ms ws : List Str} {es fs : List E} {h0 h : PH} {sl : Sl} {c : Nat} (v : ValN ms ws) (h1 : es = (ms.map PV.str).map E.con) (h2 : fs = (ws.map PV.str).map E.con) (x : Px h0 h) (hc : sl.getD 1 none = some (.ref c)) (lr : LR ms ws 40 h c) :
    sat (ev P (Fn P n) (.dic ["moods", "words", "rules"] [.lst false es, .lst false fs, .var 1]) sl h) (Drawn h0) := by
  subst h1 h2
  refine dic_sat rfl rfl rfl v ?_
  have z1 : (ms.map PV.str).length ≤ sizeL := by have := v.v.m5; rw [List.length_map]; unfold sizeL; omega
  have z2 : (ws.map PV.str).length ≤ sizeL := by have := v.v.w4; rw [List.length_map]; unfold sizeL; omega
  rw [v_lst, evs_con, Rs.bind_ok, if_pos z1]
  have g7 := get_new h (.lst (ms.map PV.str))
  have x7 : Px h (h ++ [.lst (ms.map PV.str)]) := Px.app _ _
  refine eq_sat (v := .ref h.length) (h := h ++ [.lst (ms.map PV.str)]) rfl ?_
  generalize h ++ [PO.lst (ms.map PV.str)] = h7 at *
  rw [v_lst, evs_con, Rs.bind_ok, if_pos z2]
  have g8 := get_new h7 (.lst (ws.map PV.str))
  have x8 : Px h7 (h7 ++ [.lst (ws.map PV.str)]) := Px.app _ _
  refine eq_sat (v := .ref h7.length) (h := h7 ++ [.lst (ws.map PV.str)]) rfl ?_
  generalize h7 ++ [PO.lst (ws.map PV.str)] = h8 at *
  rw [v_var, hc]
  exact ⟨_, _, _, rfl, rfl, rfl, x.trans (x7.trans x8), x8.lst g7 nop_strs, g8, lr.px (x7.trans x8)⟩
theorem s_sure (n : Nat) {h : PH} {p : Nat} (a : Pen h p) : sat (Fn P (n + 3) "_law_sure" [.ref p] h) (Drawn h) := by
  refine sat_fn e_sure rfl ?_
  simp only [d__law_sure, exs, osat_bind, List.map_cons, List.map_nil, List.length_cons, List.length_nil, List.cons_append, List.nil_append]
  refine set_sat ?_
  simp only [v_lst, q_evs_tup, v_tup, q_evs_con, v_con, q_evs_fn, q_evs_nil, Rs.bind_ok, sat_bind]
  refine p_pickC [.str "a", .non] rfl a nop_two (by simp) (by simp) fun x1 hx1 h1 y1 => ?_
  have o1 := all_o (L := mAB) (by decide +kernel) x1 hx1
  simp [-v_fn]
  refine p_pickC [.str "tell", .str "tell", .non] rfl (a.px y1) nop_two (by simp) (by simp) fun x2 hx2 h2 y2 => ?_
  have o2 := all_o (L := sGive :: wT) (by decide +kernel) x2 hx2
  simp [-v_fn, newF]
  have l1 : AllR mAB wT [.tup [.str "have", x1, .str "beat", .non, .str "give", .bl true], .tup [.str "have", .non, .str "give", .non, x2, .bl true]] := allR2 (isRb_mk (by decide +kernel) o1 (by decide +kernel) rfl (by decide +kernel)) (isRb_mk (by decide +kernel) rfl (by decide +kernel) rfl o2)
  generalize hl : [PV.tup [.str "have", x1, .str "beat", .non, .str "give", .bl true], .tup [.str "have", .non, .str "give", .non, x2, .bl true]] = l at *
  have ll : l.length = 2 := by rw [← hl]; rfl
  have g3 := get_new h2 (.lst l)
  have y3 : Px h (h2 ++ [.lst l]) := (y1.trans y2).trans (Px.app _ _)
  generalize h2 ++ [PO.lst l] = h3 at *
  refine set_sat ?_
  simp only [v_bin, v_var, List.getD_cons_succ, List.getD_cons_zero, rs_of_some, v_lst, q_evs_tup, v_tup, q_evs_con, v_con, q_evs_fn, q_evs_cmp, v_cmp, q_evs_nil, Rs.bind_ok, sat_bind, sat_ok]
  refine p_pickC [.str "tell", .non] rfl (a.px y3) nop_two (by simp) (by simp) fun x4 hx4 h4 y4 => ?_
  have o4 := all_o (L := sGive :: wT) (by decide +kernel) x4 hx4
  refine p_drawC (n := n + 1) 2 rfl (a.px (y3.trans y4)) (by decide) (by decide) fun k hk h5 y5 => ?_
  simp [-v_fn]
  refine p_pickC [.non, .non, .str "tell"] rfl (a.px ((y3.trans y4).trans y5)) nop_two (by simp) (by simp) fun x6 hx6 h6 y6 => ?_
  have o6 := all_o (L := sGive :: wT) (by decide +kernel) x6 hx6
  simp [-v_fn, newF]
  have l2 : AllR mAB wT [.tup [.str "lack", .non, .str "give", .non, x4, .bl ((k : Int) == 0)], .tup [.non, .non, .str "tell", .str "b", x6, .bl true]] := allR2 (isRb_mk (by decide +kernel) rfl (by decide +kernel) rfl o4) (isRb_mk rfl rfl (by decide +kernel) (by decide +kernel) o6)
  generalize hm : [PV.tup [.str "lack", .non, .str "give", .non, x4, .bl ((k : Int) == 0)], .tup [.non, .non, .str "tell", .str "b", x6, .bl true]] = m at *
  have lm : m.length = 2 := by rw [← hm]; rfl
  have y36 := (y4.trans y5).trans y6
  have g6 := y36.lst g3 l1.nop
  have g7 := get_new h6 (.lst m)
  have g8 := (Ex.app h6 [.lst m]) _ _ g6
  have y7 : Px h (h6 ++ [.lst m]) := (y3.trans y36).trans (Px.app _ _)
  have lz : l.length + m.length ≤ sizeL := by unfold sizeL; omega
  generalize h6.length = i7 at *
  generalize h6 ++ [PO.lst m] = h7 at *
  simp only [doBin, g7, g8]
  rw [if_pos lz]
  simp only [newO_eq, sat_ok]
  refine ret_sat (fin_dic (h0 := h) v_ab_t rfl rfl (y7.trans (Px.app _ _)) rfl ⟨l ++ m, get_new _ _, l1.app l2, by rw [List.length_append]; omega⟩)
end K89
end

section
set_option Elab.async false
set_option linter.all false
set_option maxRecDepth 100000
set_option maxHeartbeats 2000000
namespace K89
open PySem L2 R
theorem e_pull : P.fn "_law_pull" = some d__law_pull := by rfl
def pu0 : PV := ra (.str "lack") .non (.str "beat") .non (.str "want") true
def pu1 : List PV := [ra (.str "have") (.str "a") (.str "beat") (.str "b") (.str "tell") true]
def pu2 : List PV := [ra (.str "have") .non (.str "beat") .non (.str "tell") true]
def pu4 : List PV := [ra (.str "have") (.str "a") (.str "beat") .non (.str "tell") true]
theorem s_pull (n : Nat) {h : PH} {p : Nat} (a : Pen h p) : sat (Fn P (n + 3) "_law_pull" [.ref p] h) (Drawn h) := by
  refine sat_fn e_pull rfl ?_
  simp only [d__law_pull, exs, osat_bind, List.map_cons, List.map_nil, List.length_cons, List.length_nil, List.cons_append, List.nil_append]
  refine set_sat ?_
  simp only [v_lst, q_evs_tup, v_tup, q_evs_con, v_con, q_evs_fn, q_evs_nil, Rs.bind_ok, sat_bind]
  simp [-v_fn]
  refine p_pickC [.non, .str "b"] rfl a nop_two (by simp) (by simp) fun x1 hx1 h1 y1 => ?_
  have o1 := all_o (L := mAB) (by decide +kernel) x1 hx1
  simp [-v_fn, newF]
  have l1 : AllR mAB wTW [.tup [.str "lack", .non, .str "beat", .non, .str "want", .bl true], .tup [.str "have", .non, .str "want", x1, .str "give", .bl true]] := allR2 (isRb_mk (by decide +kernel) rfl (by decide +kernel) rfl (by decide +kernel)) (isRb_mk (by decide +kernel) rfl (by decide +kernel) o1 (by decide +kernel))
  generalize hl : [PV.tup [.str "lack", .non, .str "beat", .non, .str "want", .bl true], .tup [.str "have", .non, .str "want", x1, .str "give", .bl true]] = l at *
  have ll : l.length = 2 := by rw [← hl]; rfl
  have g3 := get_new h1 (.lst l)
  have y3 : Px h (h1 ++ [.lst l]) := y1.trans (Px.app _ _)
  generalize h1.length = i3 at *
  generalize h1 ++ [PO.lst l] = h4 at *
  refine set_sat ?_
  rw [v_bin, sat_bind, v_var]
  simp only [List.set_cons_succ, List.set_cons_zero, List.getD_cons_succ, List.getD_cons_zero, rs_of_some, sat_ok, sat_bind]
  generalize hE : h4 ++ [.lst pu1, .lst pu2, .lst [], .lst pu4, .lst [PV.ref h4.length, .ref (h4.length + 1), .ref (h4.length + 2), .ref (h4.length + 3)]] = gE
  refine p_pick rfl rfl (a.px y3) (eq_sat (v := .ref (h4.length + 4)) (h := gE) (by rw [← hE]; simp [newF, pu1, pu2, pu4, ra]) ⟨by rw [← hE]; exact Px.app _ _, [.ref h4.length, .ref (h4.length + 1), .ref (h4.length + 2), .ref (h4.length + 3)], .inr ⟨_, rfl, (by rw [← hE]; simp)⟩, nop_two, by simp, by simp, fun x hx h5 x5 => ?_⟩)
  have y1 : gE[h4.length]? = some (.lst pu1) := by rw [← hE]; simp
  have y2 : gE[h4.length + 1]? = some (.lst pu2) := by rw [← hE]; simp
  have y3' : gE[h4.length + 2]? = some (.lst []) := by rw [← hE]; simp
  have y4 : gE[h4.length + 3]? = some (.lst pu4) := by rw [← hE]; simp
  have k1 : AllR mAB wTW pu1 := allR_of (by decide +kernel)
  have k2 : AllR mAB wTW pu2 := allR_of (by decide +kernel)
  have k4 : AllR mAB wTW pu4 := allR_of (by decide +kernel)
  have xp : ∃ m l', x = .ref m ∧ h5[m]? = some (.lst l') ∧ AllR mAB wTW l' ∧ l'.length ≤ 2 := by
    simp only [List.mem_cons, List.not_mem_nil, or_false] at hx
    rcases hx with rfl | rfl | rfl | rfl
    · exact ⟨_, _, rfl, x5.lst y1 k1.nop, k1, by decide⟩
    · exact ⟨_, _, rfl, x5.lst y2 k2.nop, k2, by decide⟩
    · exact ⟨_, _, rfl, x5.lst y3' nop_nil, fun x hx => absurd hx List.not_mem_nil, by decide⟩
    · exact ⟨_, _, rfl, x5.lst y4 k4.nop, k4, by decide⟩
  obtain ⟨m, l', rfl, y4, r6, l6⟩ := xp
  have x45 : Px h4 h5 := Px.trans (by rw [← hE]; exact Px.app _ _) x5
  have g5 := x45.lst g3 l1.nop
  have lz : l.length + l'.length ≤ sizeL := by unfold sizeL; omega
  simp only [doBin, g5, y4]
  rw [if_pos lz]
  simp only [newO_eq, sat_ok]
  refine ret_sat (fin_dic (h0 := h) v_ab_tw rfl rfl ((y3.trans x45).trans (Px.app _ _)) rfl ⟨l ++ l', get_new _ _, l1.app r6, by rw [List.length_append]; omega⟩)
/-- a draw from a list and more -/
theorem p_pickA {n : Nat} {sl : Sl} {h : PH} {p i m : Nat} {Q : PV → PH → Prop} {l : List PV} (cs : List PV) (h0 : sl.getD 0 none = some (.ref p)) (hi : sl.getD i none = some (.ref m)) (hm : h[m]? = some (.lst l)) (a : Pen h p) (k : NoP (l ++ cs)) (l1 : 1 ≤ cs.length) (l2 : l.length + cs.length ≤ 1000)
    (q : ∀ x ∈ l ++ cs, ∀ h', Px h h' → Q x h') : sat (ev P (Fn P (n + 2)) (.fn "_law_pick" [(.var 0), .bin .add (.var i) (.lst false (cs.map .con))]) sl h) Q := by
  have x1 := Ex.app h [PO.lst cs]
  have x2 := Ex.app (h ++ [PO.lst cs]) [PO.lst (l ++ cs)]
  refine p_pick rfl h0 a (eq_sat (v := .ref (h ++ [PO.lst cs]).length) (h := h ++ [PO.lst cs] ++ [PO.lst (l ++ cs)]) ?_ ⟨.of (x1.trans x2), l ++ cs, .inr ⟨_, rfl, get_new _ _⟩, k, by rw [List.length_append]; omega, by rw [List.length_append]; omega, fun x hx h' y => q x hx h' ((Px.of (x1.trans x2)).trans y)⟩)
  rw [v_bin, v_var, hi, rs_of_some, Rs.bind_ok, v_lst, evs_con, Rs.bind_ok, if_pos (by unfold sizeL; omega)]
  have e1 := x1 _ _ hm
  have e2 := get_new h (.lst cs)
  simp only [newF, newO_eq, Bool.false_eq_true, if_false, Rs.bind_ok, doBin, e1, e2]
  rw [if_pos (by unfold sizeL; omega)]
theorem p_pickB {n : Nat} {sl : Sl} {h : PH} {p i m : Nat} {Q : PV → PH → Prop} {l : List PV} (cs : List PV) (h0 : sl.getD 0 none = some (.ref p)) (hi : sl.getD i none = some (.ref m)) (hm : h[m]? = some (.lst l)) (a : Pen h p) (k : NoP (cs ++ l)) (l1 : 1 ≤ cs.length) (l2 : cs.length + l.length ≤ 1000)
    (q : ∀ x ∈ cs ++ l, ∀ h', Px h h' → Q x h') : sat (ev P (Fn P (n + 2)) (.fn "_law_pick" [(.var 0), .bin .add (.lst false (cs.map .con)) (.var i)]) sl h) Q := by
  have x1 := Ex.app h [PO.lst cs]
  have x2 := Ex.app (h ++ [PO.lst cs]) [PO.lst (cs ++ l)]
  refine p_pick rfl h0 a (eq_sat (v := .ref (h ++ [PO.lst cs]).length) (h := h ++ [PO.lst cs] ++ [PO.lst (cs ++ l)]) ?_ ⟨.of (x1.trans x2), cs ++ l, .inr ⟨_, rfl, get_new _ _⟩, k, by rw [List.length_append]; omega, by rw [List.length_append]; omega, fun x hx h' y => q x hx h' ((Px.of (x1.trans x2)).trans y)⟩)
  rw [v_bin, v_lst, evs_con, Rs.bind_ok, if_pos (by unfold sizeL; omega)]
  have e1 := x1 _ _ hm
  have e2 := get_new h (.lst cs)
  simp only [newF, newO_eq, Bool.false_eq_true, if_false, Rs.bind_ok, v_var, hi, rs_of_some, doBin, e1, e2]
  rw [if_pos (by unfold sizeL; omega)]
theorem mem_o {L : List Str} {cs : List PV} {ms : List Str} (h1 : cs.all (oS L) = true) (h2 : ∀ s ∈ ms, s ∈ L) : (∀ x ∈ cs ++ ms.map PV.str, oS L x = true) ∧ ∀ x ∈ ms.map PV.str ++ cs, oS L x = true := by
  have k1 := all_o h1
  have k2 : ∀ x ∈ ms.map PV.str, oS L x = true := fun x hx => by
    obtain ⟨s, hs, rfl⟩ := List.mem_map.mp hx
    simpa [oS] using h2 s hs
  exact ⟨fun x hx => (List.mem_append.mp hx).elim (k1 x) (k2 x), fun x hx => (List.mem_append.mp hx).elim (k2 x) (k1 x)⟩
theorem o_ni {L : List Str} {l : List PV} (h : ∀ x ∈ l, oS L x = true) : NoP l := nop_of fun x hx s e => by
  have := h x hx
  rw [e] at this
  cases this
/-- a loop over drawn many turns -/
theorem forR {F : FF} {i : Nat} {e : E} {b : List S} {sl : Sl} {h : PH} {D : Po} (he : sat (ev P F e sl h) fun v h' => ∃ k : Nat, v = .int (k : Nat) ∧ k ≤ 1000 ∧ osat (match (Src.its (rngL 0 k)).len h' with
      | some n => forGo (.its (rngL 0 k)) (.one i) (fun s h => exs P F b s h) n 0 sl h'
      | none => .bad) D) : osat (ex P F (.for (.one i) (.itR e) b) sl h) D := by
  simp only [ex, evIt, osat_out, sat_bind]
  refine sat_mono he fun v h' ⟨k, e, hk, s⟩ => ?_
  subst e
  have : srcR (.int 0) (.int (k : Nat)) = some (.its (rngL 0 k)) := by
    simp only [srcR]
    rw [if_pos (by omega)]
    simp
  rw [this]
  simp only [rs_of_some, sat_ok]
  exact s
theorem rng_len (k : Nat) : ((rngL 0 k).map Itm.one).length = k := by simp [rngL]
end K89
end

section
set_option Elab.async false
set_option linter.all false
set_option maxRecDepth 100000
set_option maxHeartbeats 2000000
namespace K89
open PySem L2 R
theorem cutT {α : Type} (l : List α) (k : Nat) : cutI l none (some (k : Int)) = l.take k := by
  unfold cutI
  have h1 : HT.sIx l.length l.length (some (k : Int)) = min k l.length := HT.sIx_nat _ _ _
  have h2 : HT.sIx l.length 0 none = 0 := rfl
  rw [h1, h2]
  simp [← List.take_eq_take_min]
structure AnyI (p A B C : Nat) (ms ws : List Str) (h : PH) (pre : List Itm) (s : Sl) (h' : PH) : Prop where
  s : ∃ x1 x5 x6 x7, s = [some (.ref p), x1, some (.ref A), some (.ref B), some (.ref C), x5, x6, x7]
  x : Px h h'
  ea : h'[A]? = some (.lst (ms.map .str))
  eb : h'[B]? = some (.lst (ws.map .str))
  c : h.length ≤ C
  nA : A ≠ C
  nB : B ≠ C
  r : LR ms ws pre.length h' C
theorem e_any : P.fn "_law_any" = some d__law_any := by rfl
def mABC : List Str := ["a", "b", "c"]
theorem v_any : ∀ j < 3, ∀ k < 3, ValN (mABC.take (1 + j)) (wTW.take k) := fun j hj k hk => by
  have h1 : j = 0 ∨ j = 1 ∨ j = 2 := by omega
  have h2 : k = 0 ∨ k = 1 ∨ k = 2 := by omega
  rcases h1 with rfl | rfl | rfl <;> rcases h2 with rfl | rfl | rfl <;> exact valN (by decide +kernel)
/-- a rule is added -/
theorem lr_app {ms ws : List Str} {k C : Nat} {h : PH} {x : PV} (r : LR ms ws k h C) (hk : k ≤ 80) (hx : isRb ms ws x = true) : doBm true .append (.ref C) [x] h = .ok .non (h.set C (.lst ((match h[C]? with
    | some (.lst l) => l
    | _ => []) ++ [x]))) ∧ LR ms ws (k + 1) (h.set C (.lst ((match h[C]? with
    | some (.lst l) => l
    | _ => []) ++ [x]))) C := by
  obtain ⟨l, e, a, z⟩ := r
  simp only [e]
  refine ⟨q_append e (by unfold sizeL; omega), l ++ [x], List.getElem?_set_self (List.getElem?_eq_some_iff.mp e).1, a.app fun y hy => ?_, by rw [List.length_append]; simp; omega⟩
  rw [List.mem_singleton.mp hy]
  exact hx
theorem LR.bmK {ms ws : List Str} {k C : Nat} {h : PH} (r : LR ms ws k h C) : R.bmK .append h (.ref C) = some true := by
  obtain ⟨l, e, a, z⟩ := r
  exact q_bmK e
theorem app_sat {F : FF} {i : Nat} {e : E} {sl : Sl} {h : PH} {D : Po} {ms ws : List Str} {k C : Nat} (ns : isSt e = false) (hi : sl.getD i none = some (.ref C)) (r : LR ms ws k h C) (hk : k ≤ 80)
    (he : sat (ev P F e sl h) fun x h' => isRb ms ws x = true ∧ Px h h' ∧ ∀ l, LR ms ws (k + 1) (h'.set C (.lst l)) C → D.nx sl (h'.set C (.lst l))) : osat (ex P F (.exp (.bm .append (.var i) [e])) sl h) D := by
  refine exp_sat ?_
  rw [v_bm, v_var, hi]
  simp only [rs_of_some, sat_bind, sat_ok, r.bmK]
  rw [evs_cons ns]
  simp only [sat_bind, q_evs_nil, Rs.bind_ok, sat_ok]
  refine sat_mono he fun x h' ⟨hx, y, q⟩ => ?_
  obtain ⟨e1, e2⟩ := lr_app (r.px y) hk hx
  rw [e1]
  exact q _ e2
theorem par_sat {F : FF} {is : List Nat} {es : List E} {sl : Sl} {h : PH} {D : Po} (s : sat (R.evs P F es sl h) fun l h' => l.length = is.length ∧ D.nx (setAll is l sl) h') : osat (ex P F (.par is es) sl h) D := by
  simp only [ex, osat_out]
  refine sat_mono s fun l h' ⟨e, q⟩ => ?_
  rw [if_pos e]
  exact q
theorem s_any (n : Nat) {h : PH} {p : Nat} (a : Pen h p) : sat (Fn P (n + 3) "_law_any" [.ref p] h) (Drawn h) := by
  refine sat_fn e_any rfl ?_
  simp only [d__law_any, exs, osat_bind, List.map_cons, List.map_nil, List.length_cons, List.length_nil, List.cons_append, List.nil_append]
  refine par_sat ?_
  rw [evs_cons rfl, sat_bind, v_slT, sat_bind]
  refine eq_sat (v := .ref h.length) (h := h ++ [.lst (mABC.map .str)]) (by simp [newF, mABC]) ?_
  have g1 := get_new h (.lst (mABC.map .str))
  have y1 : Px h (h ++ [.lst (mABC.map .str)]) := Px.app _ _
  generalize h ++ [PO.lst (mABC.map .str)] = h1 at *
  rw [v_bin, v_con, Rs.bind_ok, sat_bind, sat_bind]
  refine p_drawC (n := n + 1) 3 rfl (a.px y1) (by decide) (by decide) fun k1 hk1 h2 y2 => ?_
  have g2 := y2.lst g1 nop_strs
  have cu : cutI (mABC.map PV.str) none (some (1 + (k1 : Int))) = (mABC.take (1 + k1)).map PV.str := by
    rw [show (1 + (k1 : Int)) = ((1 + k1 : Nat) : Int) by omega, cutT, List.map_take]
  simp only [q_add_int, sat_ok, intOf, doSl, g2, cu, newO_eq]
  generalize hms : mABC.take (1 + k1) = ms at *
  have hA := get_new h2 (.lst (ms.map .str))
  have y3 : Px h (h2 ++ [.lst (ms.map .str)]) := (y1.trans y2).trans (Px.app _ _)
  generalize h2.length = A at *
  generalize h2 ++ [PO.lst (ms.map .str)] = h3 at *
  rw [evs_cons rfl, sat_bind, sat_bind, v_slT, sat_bind]
  refine eq_sat (v := .ref h3.length) (h := h3 ++ [.lst (wTW.map .str)]) (by simp [newF, wTW]) ?_
  have g4 := get_new h3 (.lst (wTW.map .str))
  have y4 : Px h3 (h3 ++ [.lst (wTW.map .str)]) := Px.app _ _
  generalize h3 ++ [PO.lst (wTW.map .str)] = h4 at *
  rw [sat_bind]
  refine p_drawC (n := n + 1) 3 rfl (a.px (y3.trans y4)) (by decide) (by decide) fun k2 hk2 h5 y5 => ?_
  have g5 := y5.lst g4 nop_strs
  have cu : cutI (wTW.map PV.str) none (some (k2 : Int)) = (wTW.take k2).map PV.str := by rw [cutT, List.map_take]
  simp only [sat_ok, intOf, doSl, g5, cu, newO_eq]
  have vN := v_any k1 hk1 k2 hk2
  rw [hms] at vN
  generalize hws : wTW.take k2 = ws at *
  have hB := get_new h5 (.lst (ws.map .str))
  have y36 : Px h3 (h5 ++ [.lst (ws.map .str)]) := (y4.trans y5).trans (Px.app _ _)
  generalize h5.length = B at *
  generalize h5 ++ [PO.lst (ws.map .str)] = h6 at *
  have hA6 := y36.lst hA nop_strs
  have y6 := y3.trans y36
  rw [evs_cons rfl]
  simp only [v_lst, sat_bind, q_evs_nil, Rs.bind_ok, List.length_nil, Nat.zero_le, if_true, newF, newO_eq, Bool.false_eq_true, if_false, sat_ok, List.length_cons]
  have hC := get_new h6 (.lst [])
  have x6 := Ex.app h6 [.lst []]
  have hlC : h.length ≤ h6.length := y6.len
  have nA : A ≠ h6.length := by
    have := (List.getElem?_eq_some_iff.mp hA6).1
    omega
  have nB : B ≠ h6.length := by
    have := (List.getElem?_eq_some_iff.mp hB).1
    omega
  generalize hC7 : h6.length = C at *
  generalize h6 ++ [PO.lst []] = h7 at *
  have hA7 := x6 _ _ hA6
  have hB7 := x6 _ _ hB
  have y7 := y6.trans (.of x6)
  refine ⟨trivial, ?_⟩
  refine (?_ : osat (R.ex P (Fn P (n + 2)) (.for (.one 1) (.itR _) _) [some (.ref p), none, some (.ref A), some (.ref B), some (.ref C), none, none, none] h7) _)
  refine forR ?_
  rw [v_bin, v_con, Rs.bind_ok, sat_bind]
  refine p_drawC (n := n + 1) 6 rfl (a.px y7) (by decide) (by decide) fun k3 hk3 h8 y8 => ?_
  refine ⟨2 + k3, by rw [Int.natCast_add]; rfl, by omega, ?_⟩
  refine for_all (l := (rngL 0 (2 + k3)).map .one) (Inv := AnyI p A B C ms ws h) ⟨⟨none, none, none, none, rfl⟩, y7.trans y8, y8.lst hA7 nop_strs, y8.lst hB7 nop_strs, hlC, nA, nB, [], y8.lst hC nop_nil, fun x hx => absurd hx List.not_mem_nil, Nat.le_refl _⟩ (fun pre s h' _ => yields_its _ _) ?_ ?_
  · rintro pre x post s g hl ⟨⟨x1, x5, x6, x7, rfl⟩, y, ea, eb, hc, nA, nB, r⟩
    have hpre : pre.length < 7 := by
      have := congrArg List.length hl
      rw [rng_len, List.length_append, List.length_cons] at this
      omega
    have hxo : ∃ v, x = .one v := by
      have : x ∈ (rngL 0 (2 + k3)).map Itm.one := by rw [hl]; simp
      obtain ⟨v, _, e⟩ := List.mem_map.mp this
      exact ⟨v, e.symm⟩
    obtain ⟨v, rfl⟩ := hxo
    refine ⟨_, rfl, ?_⟩
    have m5 := vN.v.m5
    have w4 := vN.v.w4
    simp only [exs, osat_bind, osat_nx, List.set_cons_succ, List.set_cons_zero]
    refine par_sat ?_
    rw [evs_cons rfl, sat_bind]
    refine p_pickC [.str "lack", .str "have", .str "have", .str "aside", .non] rfl (a.px y) nop_two (by simp) (by simp) fun u6 hu6 g1 z1 => ?_
    have o6 := all_o (L := statuses) (by decide +kernel) u6 hu6
    rw [evs_cons rfl, sat_bind, sat_bind]
    have k7 := (mem_o (L := ms) (cs := [.non, .non]) (ms := ms) rfl fun s hs => hs).2
    refine p_pickA (l := ms.map .str) (m := A) [.non, .non] rfl rfl (z1.lst ea nop_strs) (a.px (y.trans z1)) (o_ni k7) (by simp) (by simp; omega) fun u7 hu7 g2 z2 => ?_
    have o7 := k7 u7 hu7
    have y2 := (y.trans z1).trans z2
    have z12 := z1.trans z2
    simp only [q_evs_nil, Rs.bind_ok, sat_ok]
    refine ⟨rfl, ?_⟩
    refine set_sat ?_
    have k5 := (mem_o (L := sGive :: ws) (cs := [.str "give", .str "give", .non]) (ms := ws) rfl fun s hs => List.mem_cons_of_mem _ hs).2
    refine p_pickA (l := ws.map .str) (m := B) [.str "give", .str "give", .non] rfl rfl (z12.lst eb nop_strs) (a.px y2) (o_ni k5) (by simp) (by simp; omega) fun u5 hu5 g3 z3 => ?_
    have o5 := k5 u5 hu5
    have y3 := y2.trans z3
    have z13 := z12.trans z3
    refine app_sat (ms := ms) (ws := ws) (k := pre.length) rfl rfl (r.px z13) (by omega) ?_
    rw [v_tup, sat_bind]
    simp only [q_evs_var, v_var, setAll, List.zip_cons_cons, List.zip_nil_right, List.foldl_cons, List.foldl_nil, List.set_cons_succ, List.set_cons_zero, List.getD_cons_succ, List.getD_cons_zero, rs_of_some, Rs.bind_ok, sat_bind]
    rw [evs_cons rfl, sat_bind]
    have kE := (mem_o (L := evs ws) (cs := [.str "beat", .str "beat", .str "give"]) (ms := ws) (by simp [oS, evs, sBeat, sGive]) fun s hs => List.mem_cons_of_mem _ (List.mem_cons_of_mem _ hs)).1
    refine p_pickB (l := ws.map .str) (m := B) [.str "beat", .str "beat", .str "give"] rfl rfl (z13.lst eb nop_strs) (a.px y3) (o_ni kE) (by simp) (by simp; omega) fun uE huE g4 z4 => ?_
    have oE := kE uE huE
    have hE : ∃ e : Str, uE = .str e ∧ (evs ws).contains e = true := by
      rcases List.mem_append.mp huE with h1 | h1
      · simp only [List.mem_cons, List.not_mem_nil, or_false] at h1
        rcases h1 with rfl | rfl | rfl <;> exact ⟨_, rfl, oE⟩
      · obtain ⟨s, _, rfl⟩ := List.mem_map.mp h1
        exact ⟨s, rfl, oE⟩
    obtain ⟨e, rfl, oE⟩ := hE
    have y4 := y3.trans z4
    have z14 := z13.trans z4
    rw [evs_cons rfl, sat_bind, sat_bind]
    have kL := (mem_o (L := ms) (cs := [.non]) (ms := ms) rfl fun s hs => hs).2
    refine p_pickA (l := ms.map .str) (m := A) [.non] rfl rfl (z14.lst ea nop_strs) (a.px y4) (o_ni kL) (by simp) (by simp; omega) fun uL huL g5 z5 => ?_
    have oL := kL uL huL
    have y5 := y4.trans z5
    have z15 := z14.trans z5
    simp only [q_evs_var, v_var, List.getD_cons_succ, List.getD_cons_zero, rs_of_some, Rs.bind_ok, sat_bind]
    rw [evs_cons rfl, v_cmp, sat_bind, sat_bind]
    refine p_drawC (n := n + 1) 3 rfl (a.px y5) (by decide) (by decide) fun k8 hk8 g6 z6 => ?_
    have y6 := y5.trans z6
    have z16 := z15.trans z6
    simp only [v_con, Rs.bind_ok, q_gt_int, sat_ok, q_evs_nil, List.length_cons, List.length_nil]
    rw [if_pos (by unfold sizeL; decide)]
    refine ⟨isRb_mk o6 o7 oE oL o5, z4.trans (z5.trans z6), fun l lr => ?_⟩
    refine ⟨⟨_, _, _, _, rfl⟩, y6.set hc, ?_, ?_, hc, nA, nB, by rw [List.length_append]; exact lr⟩
    · rw [List.getElem?_set_ne (Ne.symm nA)]
      exact z16.lst ea nop_strs
    · rw [List.getElem?_set_ne (Ne.symm nB)]
      exact z16.lst eb nop_strs
  · rintro s g ⟨⟨x1, x5, x6, x7, rfl⟩, y, ea, eb, hc, nA, nB, r⟩
    dsimp only
    refine ret_sat ?_
    refine dic_sat (h0 := h) rfl rfl rfl vN ?_
    simp only [v_var, List.getD_cons_succ, List.getD_cons_zero, rs_of_some, sat_ok]
    obtain ⟨l, e, r, z⟩ := r
    rw [rng_len] at z
    exact ⟨A, B, C, rfl, rfl, rfl, y, ea, eb, l, e, r, by omega⟩
end K89
end

section
set_option Elab.async false
set_option linter.all false
set_option maxRecDepth 100000
set_option maxHeartbeats 2000000
namespace K89
open PySem L2 R
theorem setSl_sat {F : FF} {o lo hi e : E} {sl : Sl} {h : PH} {D : Po}
    (he : sat (ev P F e sl h) fun v h1 => ∃ n m a c l r, v = .ref m ∧ ev P F o sl h1 = .ok (.ref n) h1 ∧ ev P F lo sl h1 = .ok (.int a) h1 ∧ ev P F hi sl h1 = .ok (.int c) h1 ∧ n ≠ m ∧ h1[n]? = some (.lst l) ∧ h1[m]? = some (.lst r) ∧ 0 ≤ a ∧ a ≤ c ∧ c ≤ l.length ∧ l.length + r.length ≤ sizeL ∧ D.nx sl (h1.set n (.lst (l.take a.toNat ++ r ++ l.drop c.toNat)))) :
    osat (ex P F (.setSl o lo hi e) sl h) D := by
  simp only [ex, osat_out]
  refine sat_mono he fun v h1 ⟨n, m, a, c, l, r, e1, e2, e3, e4, e5, e6, e7, e8, e9, e10, e11, q⟩ => ?_
  subst e1
  simp only [e2, e3, e4, sat_ok, e6, e7]
  rw [if_neg e5, if_pos ⟨e8, e9, e10, e11⟩]
  exact q
theorem unp_sat {F : FF} {is : List Nat} {e : E} {sl : Sl} {h : PH} {D : Po} (he : sat (ev P F e sl h) fun v h' => ∃ s, asgV (.many is) v h' sl = some s ∧ D.nx s h') : osat (ex P F (.unp is e) sl h) D := by
  simp only [ex, osat_out]
  refine sat_mono he fun v h' ⟨s, e1, q⟩ => ?_
  rw [e1]
  exact q
theorem ix_dic {h : PH} {d : Nat} {a b c : Nat} (e : h[d]? = some (.dic [(Sum.inr "moods", .ref a), (Sum.inr "words", .ref b), (Sum.inr "rules", .ref c)])) :
    doIx (.ref d) (.str "moods") h = .ok (.ref a) h ∧ doIx (.ref d) (.str "words") h = .ok (.ref b) h ∧ doIx (.ref d) (.str "rules") h = .ok (.ref c) h := by
  refine ⟨?_, ?_, ?_⟩
  · simp only [doIx, e]
    rfl
  · simp only [doIx, e]
    rfl
  · simp only [doIx, e]
    rfl
theorem p_pickA' {n : Nat} {sl : Sl} {h : PH} {p m : Nat} {Q : PV → PH → Prop} {l : List PV} {e1 : E} (cs : List PV) (h0 : sl.getD 0 none = some (.ref p)) (hi : ev P (Fn P (n + 2)) e1 sl h = .ok (.ref m) h) (hm : h[m]? = some (.lst l)) (a : Pen h p) (k : NoP (l ++ cs)) (l1 : 1 ≤ cs.length) (l2 : l.length + cs.length ≤ 1000)
    (q : ∀ x ∈ l ++ cs, ∀ h', Px h h' → Q x h') : sat (ev P (Fn P (n + 2)) (.fn "_law_pick" [(.var 0), .bin .add e1 (.lst false (cs.map .con))]) sl h) Q := by
  have x1 := Ex.app h [PO.lst cs]
  have x2 := Ex.app (h ++ [PO.lst cs]) [PO.lst (l ++ cs)]
  refine p_pick rfl h0 a (eq_sat (v := .ref (h ++ [PO.lst cs]).length) (h := h ++ [PO.lst cs] ++ [PO.lst (l ++ cs)]) ?_ ⟨.of (x1.trans x2), l ++ cs, .inr ⟨_, rfl, get_new _ _⟩, k, by rw [List.length_append]; omega, by rw [List.length_append]; omega, fun x hx h' y => q x hx h' ((Px.of (x1.trans x2)).trans y)⟩)
  rw [v_bin, hi, Rs.bind_ok, v_lst, evs_con, Rs.bind_ok, if_pos (by unfold sizeL; omega)]
  have e1 := x1 _ _ hm
  have e2 := get_new h (.lst cs)
  simp only [newF, newO_eq, Bool.false_eq_true, if_false, Rs.bind_ok, doBin, e1, e2]
  rw [if_pos (by unfold sizeL; omega)]
theorem allR3 {ms ws : List Str} {a b c : PV} (h1 : isRb ms ws a = true) (h2 : isRb ms ws b = true) (h3 : isRb ms ws c = true) : AllR ms ws [a, b, c] := fun x hx => by
  simp only [List.mem_cons, List.not_mem_nil, or_false] at hx
  rcases hx with rfl | rfl | rfl
  · exact h1
  · exact h2
  · exact h3
theorem o_of {L : List Str} {o : OS} (k : ∀ s, o = some s → s ∈ L) : oS L (vS o) = true := by
  cases o with
  | none => rfl
  | some s => simpa [oS] using k s rfl
theorem e_bent : P.fn "_law_bent" = some d__law_bent := by rfl
theorem s_bent (n : Nat) {h : PH} {p d : Nat} {T : Tk} (a : Pen h p) (pl : PlainAt h d T) (V : ValT T) (r90 : T.rules.length ≤ 40) : sat (Fn P (n + 3) "_law_bent" [.ref p, .ref d] h) (DrawnM 40 h T.moods T.words) := by
  refine sat_fn e_bent rfl ?_
  obtain ⟨A, B, C, e, eA, eB, eC⟩ := pl
  have vN := V.n
  have rok := V.v.ok
  obtain ⟨ms, ws, rs⟩ := T
  dsimp only at eA eB eC vN rok r90
  have m5' := vN.v.m5
  have w4' := vN.v.w4
  simp only [d__law_bent, exs, osat_bind, List.map_cons, List.map_nil, List.length_cons, List.length_nil, List.cons_append, List.nil_append]
  refine set_sat ?_
  refine eq_sat (v := .ref h.length) (h := h ++ [.lst (rs.map ruleV)]) (by simp [(ix_dic e).2.2, q_list_ref eC]) ?_
  have ar : AllR ms ws (rs.map ruleV) := fun x hx => by
    obtain ⟨r, hr, rfl⟩ := List.mem_map.mp hx
    exact r_is (rok r hr)
  have gL := get_new h (.lst (rs.map ruleV))
  have y1 : Px h (h ++ [.lst (rs.map ruleV)]) := Px.app _ _
  have hL : h.length ≤ h.length := Nat.le_refl _
  have nL : A ≠ h.length ∧ B ≠ h.length ∧ d ≠ h.length := by
    have h1 := (List.getElem?_eq_some_iff.mp eA).1
    have h2 := (List.getElem?_eq_some_iff.mp eB).1
    have h3 := (List.getElem?_eq_some_iff.mp e).1
    omega
  generalize hLL : h.length = L at gL nL hL ⊢
  generalize h ++ [PO.lst (rs.map ruleV)] = h1 at *
  have fin : ∀ (g : PH) (s3 s4 s5 s6 s7 s8 s9 s10 : Option PV), Px h g → LR ms ws 40 g L → osat (R.ex P (Fn P (n + 2)) (.ret (.dic ["moods", "words", "rules"] [(.ix (.var 1) (.con (.str "moods"))), (.ix (.var 1) (.con (.str "words"))), (.var 2)])) [some (.ref p), some (.ref d), some (.ref L), s3, s4, s5, s6, s7, s8, s9, s10] g) { nx := fun s h_1 => osat (Out.nx s h_1) { nx := fun x h_3 => DrawnM 40 h ms ws PV.non h_3, rt := DrawnM 40 h ms ws }, rt := DrawnM 40 h ms ws } := fun g s3 s4 s5 s6 s7 s8 s9 s10 y lr => by
    refine ret_sat ?_
    refine dic_satM (k := 40) (by decide) (h0 := h) rfl rfl rfl vN ?_
    have eg := y.st _ _ e dic_np
    refine eq_sat (v := .ref A) (h := g) (by simp [(ix_dic eg).1]) ?_
    refine eq_sat (v := .ref B) (h := g) (by simp [(ix_dic eg).2.1]) ?_
    refine eq_sat (v := .ref L) (h := g) (by simp) ?_
    exact ⟨A, B, L, rfl, rfl, rfl, y, y.lst eA nop_strs, y.lst eB nop_strs, lr⟩
  simp only [osat_nx]
  refine ife_sat ?_
  have x2 := Ex.app h1 [PO.lst []]
  have ne := d_ne_nil (k := 5) (by decide) (x2 _ _ gL) (get_new h1 (.lst [])) (fun x hx => ar.dv vN x hx _)
  have mt : methOf P (h1 ++ [.lst []]) (.ref L) strEqS = none := meth_lst (x2 _ _ gL)
  refine eq_sat (v := .bl (!(rs.map ruleV).isEmpty)) (h := h1 ++ [.lst []]) (by
    simp [newF, cmpE, mt, ne]) ?_
  have y2 : Px h (h1 ++ [.lst []]) := y1.trans (.of x2)
  have gL2 := x2 _ _ gL
  generalize h1 ++ [PO.lst []] = h2 at *
  have lrs : LR ms ws 40 h2 L := ⟨_, gL2, ar, by simpa using r90⟩
  cases hrs : (rs.map ruleV).isEmpty with
  | true =>
    right
    refine ⟨rfl, ?_⟩
    simp only [exs, osat_nx]
    exact fin h2 _ _ _ _ _ _ _ _ y2 lrs
  | false =>
    left
    refine ⟨rfl, ?_⟩
    have hpos : 1 ≤ rs.length := by
      cases rs with
      | nil => simp at hrs
      | cons _ _ => simp
    simp only [exs, osat_bind, osat_nx]
    refine set_sat ?_
    refine p_draw (n := n + 1) rfl rfl (a.px y2) (eq_sat (v := .int rs.length) (h := h2) (by simp [q_len_ref gL2]) ⟨Px.refl _, rs.length, rfl, sm_big (by simp; omega), fun k h3 y3 kl _ => ?_⟩)
    have hk : k < rs.length := by have := kl (by omega); omega
    have gL3 := y3.lst gL2 ar.nop
    have y23 := y2.trans y3
    have rk := rok rs[k] (List.getElem_mem hk)
    have at1 : atI (rs.map ruleV) (k : Int) = some (ruleV rs[k]) := by
      rw [atI_of (by simpa using hk)]
      simp
    generalize hr : rs[k] = r at rk at1
    refine unp_sat ?_
    refine eq_sat (v := ruleV r) (h := h3) (by simp [q_ix_ref _ gL3, at1]) ⟨_, rfl, ?_⟩
    simp only [setAll, List.zip_cons_cons, List.zip_nil_right, List.foldl_cons, List.foldl_nil, List.set_cons_succ, List.set_cons_zero, List.replicate]
    -- the first three
    refine set_sat ?_
    have o1 := o_of rk.st
    have o2 := o_of rk.mood
    have o3 : (evs ws).contains r.ev = true := by simpa using rk.ev
    have o4 := o_of rk.later
    have o5 : oS (sGive :: ws) (vS r.say) = true := o_of fun s e => by simpa using rk.say s e
    have kL := (mem_o (L := ms) (cs := [.non]) (ms := ms) rfl fun s hs => hs).2
    have k5 := (mem_o (L := sGive :: ws) (cs := [.str "give", .non]) (ms := ws) rfl fun s hs => List.mem_cons_of_mem _ hs).2
    have e3 := y23.st _ _ e dic_np
    have eA3 := y23.lst eA nop_strs
    have eB3 := y23.lst eB nop_strs
    simp only [v_lst, q_evs_tup, v_tup, q_evs_con, v_con, q_evs_var, v_var, q_evs_fn, q_evs_nil, Rs.bind_ok, sat_bind, List.getD_cons_succ, List.getD_cons_zero, rs_of_some, List.length_cons, List.length_nil, Nat.reduceAdd]
    simp only [sz_lit (show 6 ≤ 100 by decide), if_true, Rs.bind_ok, sat_ok]
    refine p_pickA' (l := ms.map .str) (m := A) [.non] rfl (by simp [(ix_dic e3).1]) eA3 (a.px y23) (o_ni kL) (by simp) (by simp; omega) fun uL huL h4 z4 => ?_
    have oL := kL uL huL
    simp only [List.length_cons, List.length_nil, Nat.reduceAdd, newF, newO_eq, Bool.false_eq_true, if_false, sat_ok, sz_lit (show 3 ≤ 100 by decide), if_pos (show 3 ≤ sizeL by unfold sizeL; decide), sz_lit (show 6 ≤ 100 by decide), if_true]
    have l1 : AllR ms ws [.tup [.non, vS r.mood, .str r.ev, vS r.later, vS r.say, .bl r.hold], .tup [vS r.st, .non, .str r.ev, vS r.later, vS r.say, .bl r.hold], .tup [vS r.st, vS r.mood, .str r.ev, uL, vS r.say, .bl r.hold]] :=
      allR3 (isRb_mk rfl o2 o3 o4 o5) (isRb_mk o1 rfl o3 o4 o5) (isRb_mk o1 o2 o3 oL o5)
    generalize hl1 : [PV.tup [.non, vS r.mood, .str r.ev, vS r.later, vS r.say, .bl r.hold], .tup [vS r.st, .non, .str r.ev, vS r.later, vS r.say, .bl r.hold], .tup [vS r.st, vS r.mood, .str r.ev, uL, vS r.say, .bl r.hold]] = la at *
    have ll1 : la.length = 3 := by rw [← hl1]; rfl
    have gM := get_new h4 (.lst la)
    have z5 : Px h3 (h4 ++ [.lst la]) := z4.trans (Px.app _ _)
    generalize h4.length = M at *
    generalize h4 ++ [PO.lst la] = h5 at *
    have y5 := y23.trans z5
    -- the other two
    refine set_sat ?_
    have e5 := y5.st _ _ e dic_np
    simp only [v_bin, v_lst, q_evs_tup, v_tup, q_evs_con, v_con, q_evs_var, v_var, q_evs_fn, q_evs_not, v_not, q_evs_nil, Rs.bind_ok, sat_bind, List.set_cons_succ, List.set_cons_zero, List.getD_cons_succ, List.getD_cons_zero, rs_of_some, List.length_cons, List.length_nil, Nat.reduceAdd, sat_ok]
    refine p_pickA' (l := ws.map .str) (m := B) [.str "give", .non] rfl (by simp [(ix_dic e5).2.1]) (y5.lst eB nop_strs) (a.px y5) (o_ni k5) (by simp) (by simp; omega) fun u5 hu5 h6 z6 => ?_
    have oW := k5 u5 hu5
    simp only [List.length_cons, List.length_nil, Nat.reduceAdd, newF, newO_eq, Bool.false_eq_true, if_false, sat_ok, sz_lit (show 3 ≤ 100 by decide), if_pos (show 3 ≤ sizeL by unfold sizeL; decide), if_pos (show 2 ≤ sizeL by unfold sizeL; decide), sz_lit (show 6 ≤ 100 by decide), sz_lit (show 2 ≤ 100 by decide), if_true, tru_bl, Rs.bind_ok]
    have l2 : AllR ms ws [.tup [vS r.st, vS r.mood, .str r.ev, vS r.later, u5, .bl r.hold], .tup [vS r.st, vS r.mood, .str r.ev, vS r.later, vS r.say, .bl (!r.hold)]] :=
      allR2 (isRb_mk o1 o2 o3 o4 oW) (isRb_mk o1 o2 o3 o4 o5)
    generalize hl2 : [PV.tup [vS r.st, vS r.mood, .str r.ev, vS r.later, u5, .bl r.hold], .tup [vS r.st, vS r.mood, .str r.ev, vS r.later, vS r.say, .bl (!r.hold)]] = lb at *
    have ll2 : lb.length = 2 := by rw [← hl2]; rfl
    have gN := get_new h6 (.lst lb)
    have gM6 := (Ex.app h6 [PO.lst lb]) _ _ (z6.lst gM l1.nop)
    have z7 : Px h5 (h6 ++ [.lst lb]) := z6.trans (Px.app _ _)
    generalize h6.length = N at *
    generalize h6 ++ [PO.lst lb] = h7 at *
    have lz : la.length + lb.length ≤ sizeL := by unfold sizeL; omega
    simp only [doBin, gM6, gN]
    rw [if_pos lz]
    simp only [newO_eq, sat_ok]
    have lab := l1.app l2
    have llab : (la ++ lb).length = 5 := by rw [List.length_append]; omega
    generalize la ++ lb = lc at *
    have gO := get_new h7 (.lst lc)
    have z8 : Px h3 (h7 ++ [.lst lc]) := z5.trans (z7.trans (Px.app _ _))
    generalize h7.length = O at *
    generalize h7 ++ [PO.lst lc] = h8 at *
    have gL8 := z8.lst gL3 ar.nop
    have y8 := y23.trans z8
    -- the slice
    refine setSl_sat ?_
    have last : ∀ (g : PH) (m : Nat) (l' : List PV), Px h8 g → g[m]? = some (.lst l') → AllR ms ws l' → l'.length ≤ 1 → L ≠ m → (∃ n_1 m_1 a c l r_1, (PV.ref m) = .ref m_1 ∧ ev P (Fn P (n + 2)) (.var 2) [some (.ref p), some (.ref d), some (.ref L), some (.int k), some (.ref O), some (vS r.st), some (vS r.mood), some (.str r.ev), some (vS r.later), some (vS r.say), some (.bl r.hold)] g = .ok (.ref n_1) g ∧ ev P (Fn P (n + 2)) (.var 3) [some (.ref p), some (.ref d), some (.ref L), some (.int k), some (.ref O), some (vS r.st), some (vS r.mood), some (.str r.ev), some (vS r.later), some (vS r.say), some (.bl r.hold)] g = .ok (.int a) g ∧ ev P (Fn P (n + 2)) (.bin .add (.var 3) (.con (.int 1))) [some (.ref p), some (.ref d), some (.ref L), some (.int k), some (.ref O), some (vS r.st), some (vS r.mood), some (.str r.ev), some (vS r.later), some (vS r.say), some (.bl r.hold)] g = .ok (.int c) g ∧ n_1 ≠ m_1 ∧ g[n_1]? = some (.lst l) ∧ g[m_1]? = some (.lst r_1) ∧ 0 ≤ a ∧ a ≤ c ∧ c ≤ l.length ∧ l.length + r_1.length ≤ sizeL ∧ Px h (g.set n_1 (.lst (l.take a.toNat ++ r_1 ++ l.drop c.toNat))) ∧ LR ms ws 40 (g.set n_1 (.lst (l.take a.toNat ++ r_1 ++ l.drop c.toNat))) L) := fun g m l' z9 gm al' ll' nm => by
      have gL9 := z9.lst gL8 ar.nop
      refine ⟨L, m, k, k + 1, rs.map ruleV, l', rfl, by simp, by simp, by simp, nm, gL9, gm, by omega, by omega, by rw [List.length_map]; omega, by rw [List.length_map]; unfold sizeL; omega, (y8.trans z9).set (by omega), _, List.getElem?_set_self (List.getElem?_eq_some_iff.mp gL9).1, fun x hx => ?_, ?_⟩
      · rcases List.mem_append.mp hx with hx | hx
        · rcases List.mem_append.mp hx with hx | hx
          · exact ar x (List.mem_of_mem_take hx)
          · exact al' x hx
        · exact ar x (List.mem_of_mem_drop hx)
      · simp only [List.length_append, List.length_take, List.length_drop, List.length_map]
        omega
    rw [v_ite, v_cmp, sat_bind, sat_bind]
    refine p_drawC (n := n + 1) 4 rfl (a.px y8) (by decide) (by decide) fun k9 hk9 h9 z9 => ?_
    simp only [v_con, Rs.bind_ok, q_gt_int, sat_ok, tru_bl]
    have lL : L < h9.length := (List.getElem?_eq_some_iff.mp (z9.lst gL8 ar.nop)).1
    cases hb : decide (0 < (k9 : Int)) with
    | false =>
      refine (?_ : sat (ev P (Fn P (n + 2)) (.lst false []) _ h9) _)
      refine eq_sat (v := .ref h9.length) (h := h9 ++ [.lst []]) (by simp [newF]) ?_
      obtain ⟨n1, m1, a1, c1, l1, r1, b1, b2, b3, b4, b5, b6, b7, b8, b9, b10, b11, b12, b13⟩ := last _ _ [] (z9.trans (Px.app h9 [PO.lst []])) (get_new _ _) (fun x hx => absurd hx List.not_mem_nil) (by decide) (by omega)
      refine ⟨n1, m1, a1, c1, l1, r1, b1, b2, b3, b4, b5, b6, b7, b8, b9, b10, b11, ?_⟩
      exact fin _ _ _ _ _ _ _ _ _ b12 b13
    | true =>
      refine (?_ : sat (ev P (Fn P (n + 2)) (.lst false [.fn "_law_pick" [(.var 0), (.var 4)]]) _ h9) _)
      rw [v_lst, evs_cons rfl, sat_bind, sat_bind]
      refine p_pick rfl rfl (a.px (y8.trans z9)) (eq_sat (v := .ref O) (h := h9) (by simp) ⟨Px.refl _, lc, .inr ⟨_, rfl, z9.lst gO lab.nop⟩, lab.nop, by omega, by omega, fun x hx h10 z10 => ?_⟩)
      simp only [q_evs_nil, Rs.bind_ok, sat_ok, List.length_cons, List.length_nil, Nat.reduceAdd, sz_lit (show 1 ≤ 100 by decide), if_true, newF, newO_eq, Bool.false_eq_true, if_false]
      have lL10 := z10.len
      obtain ⟨n1, m1, a1, c1, l1, r1, b1, b2, b3, b4, b5, b6, b7, b8, b9, b10, b11, b12, b13⟩ := last _ _ [x] ((z9.trans z10).trans (Px.app h10 [PO.lst [x]])) (get_new _ _) (fun y hy => by rw [List.mem_singleton.mp hy]; exact lab x hx) (by simp) (by omega)
      refine ⟨n1, m1, a1, c1, l1, r1, b1, b2, b3, b4, b5, b6, b7, b8, b9, b10, b11, ?_⟩
      exact fin _ _ _ _ _ _ _ _ _ b12 b13
theorem e_talk : P.fn "_law_talk" = some d__law_talk := by rfl
theorem s_talk (n : Nat) {h : PH} {p : Nat} (a : Pen h p) : sat (Fn P (n + 4) "_law_talk" [.ref p] h) (Drawn h) := by
  refine sat_fn e_talk rfl ?_
  simp only [d__law_talk, exs, osat_bind, List.map_cons, List.map_nil, List.length_cons, List.length_nil, List.cons_append, List.nil_append]
  refine set_sat ?_
  rw [v_app, sat_bind]
  refine p_pickC (n := n + 1) [.glo "_law_asking", .glo "_law_sure", .glo "_law_pull", .glo "_law_any"] rfl a nop_two (by simp) (by simp) fun x hx h1 y1 => ?_
  have call : ∃ g, x = .glo g ∧ P.glb.contains g = true ∧ sat (Fn P (n + 3) g [.ref p] h1) (Drawn h1) := by
    simp only [List.mem_cons, List.not_mem_nil, or_false] at hx
    rcases hx with rfl | rfl | rfl | rfl
    · exact ⟨_, rfl, by decide +kernel, s_asking n (a.px y1)⟩
    · exact ⟨_, rfl, by decide +kernel, s_sure n (a.px y1)⟩
    · exact ⟨_, rfl, by decide +kernel, s_pull n (a.px y1)⟩
    · exact ⟨_, rfl, by decide +kernel, s_any n (a.px y1)⟩
  obtain ⟨g, rfl, hg, s⟩ := call
  simp only [hg, if_true, q_evs_var, v_var, List.getD_cons_zero, rs_of_some, q_evs_nil, Rs.bind_ok]
  refine sat_mono s fun v h2 dr => ?_
  obtain ⟨y2, d, T, rfl, pl, V, r40⟩ := dr
  have y12 := y1.trans y2
  simp only [osat_nx]
  refine ret_sat ?_
  rw [v_ite, v_cmp, sat_bind, sat_bind]
  refine p_drawC (n := n + 2) 3 rfl (a.px y12) (by decide) (by decide) fun k9 hk9 h9 z9 => ?_
  simp only [v_con, Rs.bind_ok, q_eq_int, sat_ok, tru_bl]
  cases hb : ((k9 : Int) == 0) with
  | false =>
    refine (?_ : sat (ev P (Fn P (n + 3)) (.var 1) _ h9) _)
    refine eq_sat (v := .ref d) (h := h9) (by simp) ⟨y12.trans z9, d, T, rfl, pl.px z9, V, r40⟩
  | true =>
    refine (?_ : sat (ev P (Fn P (n + 3)) (.fn "_law_bent" [(.var 0), (.var 1)]) _ h9) _)
    simp only [v_fn, q_evs_var, v_var, q_evs_nil, List.set_cons_succ, List.set_cons_zero, List.getD_cons_succ, List.getD_cons_zero, rs_of_some, Rs.bind_ok, List.replicate]
    exact sat_mono (s_bent n (a.px (y12.trans z9)) (pl.px z9) V r40) fun v h' dr => (dr.d).mono (y12.trans z9)
end K89
end

section
set_option Elab.async false
set_option linter.all false
set_option maxRecDepth 100000
set_option maxHeartbeats 2000000
namespace K89
open PySem L2 R
theorem e_made : P.fn "_law_made" = some d__law_made := by rfl
theorem PlainAt.ex {h h' : PH} {d : Nat} {T : Tk} (p : PlainAt h d T) (x : Ex h h') : PlainAt h' d T := p.px (.of x)
theorem s_made (n : Nat) {h : PH} {d : Nat} {T : Tk} (pl : PlainAt h d T) (V : ValT T) : sat (Fn P (n + 5) "_law_made" [.ref d] h) fun v h' => ∃ t, v = .ref t ∧ TalkAt h' t T ∧ Ex h h' := by
  refine sat_fn e_made rfl ?_
  obtain ⟨A, B, C, e, eA, eB, eC⟩ := pl
  simp only [d__law_made, exs, osat_bind, List.map_cons, List.map_nil, List.length_cons, List.length_nil, List.cons_append, List.nil_append]
  refine ret_sat (s_mk (n := n) ?_)
  have x1 := Ex.app h [PO.lst (T.moods.map .str)]
  have x2 := Ex.app (h ++ [PO.lst (T.moods.map .str)]) [PO.lst (T.words.map .str)]
  have x3 := Ex.app (h ++ [PO.lst (T.moods.map .str)] ++ [PO.lst (T.words.map .str)]) [PO.lst (T.rules.map ruleV)]
  have i1 := ix_dic e
  have i2 := ix_dic (x1 _ _ e)
  have i3 := ix_dic (x2 _ _ (x1 _ _ e))
  have xx := x1.trans (x2.trans x3)
  refine eq_sat (v := [.ref h.length, .ref (h ++ [PO.lst (T.moods.map .str)]).length, .ref (h ++ [PO.lst (T.moods.map .str)] ++ [PO.lst (T.words.map .str)]).length]) (h := h ++ [PO.lst (T.moods.map .str)] ++ [PO.lst (T.words.map .str)] ++ [PO.lst (T.rules.map ruleV)]) ?_
    ⟨T, _, _, _, rfl, V, .inr ⟨_, rfl, x3 _ _ (x2 _ _ (get_new _ _))⟩, .inr ⟨_, rfl, x3 _ _ (get_new _ _)⟩, .inr ⟨_, rfl, get_new _ _⟩, fun h' a x => ⟨_, rfl, a, xx.trans x⟩⟩
  have l1 := q_list_ref eA
  have l2 := q_list_ref (x1 _ _ eB)
  have l3 := q_list_ref (x2 _ _ (x1 _ _ eC))
  generalize hg1 : h ++ [PO.lst (T.moods.map .str)] = h1 at *
  generalize hg2 : h1 ++ [PO.lst (T.words.map .str)] = h2 at *
  simp [i1.1, l1, hg1, i2.2.1, l2, hg2, i3.2.2, l3]
theorem e_lrule : P.fn "_law_rule" = some d__law_rule := by rfl
theorem find_take {α : Type} {p : α → Bool} {l : List α} {i : Nat} {a : α} (h : (l.take i).find? p = none) (e : l[i]? = some a) : if p a = true then l.find? p = some a else (l.take (i + 1)).find? p = none := by
  have hi := (List.getElem?_eq_some_iff.mp e).1
  split
  · rename_i hp
    have : l = l.take i ++ a :: l.drop (i + 1) := by
      rw [← (List.getElem?_eq_some_iff.mp e).2, List.getElem_cons_drop, List.take_append_drop]
    rw [this, List.find?_append, h, List.find?_cons, hp]
    rfl
  · rename_i hp
    rw [List.take_add_one, e]
    rw [List.find?_append, h]
    simp [hp]
theorem q_lrule (n : Nat) {T : Tk} {d : Nat} {h : PH} (pl : PlainAt h d T) (c : Case) : Fn P (n + 1) "_law_rule" [.ref d, .str c.1, .str c.2.1, .str c.2.2] h = .ok (ansV (answer T c)) h := by
  refine sat_eq (sat_fn e_lrule rfl ?_)
  obtain ⟨A, B, C, e, eA, eB, eC⟩ := pl
  simp only [d__law_rule, exs, osat_bind, List.map_cons, List.map_nil, List.length_cons, List.length_nil, List.cons_append, List.nil_append]
  refine forx (r := .ref C) (h' := h) (by simp [evIt, (ix_dic e).2.2, src_ref eC]) ?_
  refine for_all (l := (T.rules.map ruleV).map .one) (Inv := fun pre s h' => h' = h ∧ (∃ x, s = [some (.ref d), some (.str c.1), some (.str c.2.1), some (.str c.2.2), x]) ∧ (T.rules.take pre.length).find? (·.fits c) = none) ⟨rfl, ⟨_, rfl⟩, rfl⟩ (fun pre s h' I => by rw [I.1]; exact yields_ref eC) ?_ ?_
  · rintro pre x post s h' hl ⟨rfl, ⟨u, rfl⟩, hn⟩
    have h1 : ((T.rules.map ruleV).map Itm.one)[pre.length]? = some x := by rw [hl]; simp
    rw [List.getElem?_map, Option.map_eq_some_iff] at h1
    obtain ⟨x0, h1, rfl⟩ := h1
    rw [List.getElem?_map, Option.map_eq_some_iff] at h1
    obtain ⟨rl, h1, rfl⟩ := h1
    refine ⟨_, rfl, ?_⟩
    have hf := find_take hn h1
    have e1 : rl.fits c = ((rl.ev == c.2.2) && ((rl.st.isNone || rl.st == some c.1) && (rl.mood.isNone || rl.mood == some c.2.1))) := by unfold Rule.fits; cases rl.st <;> cases rl.mood <;> simp
    cases b1 : (rl.ev == c.2.2) <;> cases b2 : (rl.st.isNone || rl.st == some c.1) <;> cases b3 : (rl.mood.isNone || rl.mood == some c.2.1) <;> rw [b1, b2, b3] at e1 <;> rw [e1] at hf <;>
      simp [exs, ex, tst, ev, ruleV, b1, b2, b3] <;> first | (simpa using hf; done) | skip
    simp at hf
    unfold answer
    rw [hf]
    cases hl : rl.later <;> simp [ansV, hl]
  · rintro s h' ⟨rfl, ⟨u, rfl⟩, hn⟩
    rw [List.take_of_length_le (by simp)] at hn
    simp [exs, ex, ev, ansV, answer, hn]
def rowV (q : Case × Nat) : PV := .tup [.str q.1.1, .str q.1.2.1, .str q.1.2.2, .ref q.2, .int (if dropOf q.1 then 2 else 1)]
structure CI (h0 : PH) (ws : List Str) (done : List Case) (h' : PH) : Prop where
  x : Ex h0 h'
  r : ∃ cks : List (Case × Nat), h'[h0.length]? = some (.lst (cks.map rowV)) ∧ cks.map (·.1) = done ∧ ∀ q ∈ cks, q.2 ≠ h0.length ∧ h'[q.2]? = some (.lst ((saysOf ws q.1).map vS))
theorem CI.ex {h0 : PH} {ws : List Str} {done : List Case} {h' h2 : PH} (a : CI h0 ws done h') (x : Ex h' h2) : CI h0 ws done h2 :=
  ⟨a.x.trans x, let ⟨cks, e, e1, e2⟩ := a.r; ⟨cks, x _ _ e, e1, fun q hq => ⟨(e2 q hq).1, x _ _ (e2 q hq).2⟩⟩⟩
/-- a row is added -/
theorem CI.app {h0 : PH} {ws : List Str} {done : List Case} {h' : PH} {c : Case} {k : Nat} (a : CI h0 ws done h') (hk : k ≠ h0.length) (e : h'[k]? = some (.lst ((saysOf ws c).map vS))) (hd : done.length ≤ 1000) :
    ∃ l, doBm true .append (.ref h0.length) [rowV (c, k)] h' = .ok .non (h'.set h0.length (.lst l)) ∧ CI h0 ws (done ++ [c]) (h'.set h0.length (.lst l)) := by
  obtain ⟨x, cks, e0, e1, e2⟩ := a
  refine ⟨_, q_append e0 (by have := congrArg List.length e1; rw [List.length_map] at this ⊢; unfold sizeL; omega), fun i o ei => ?_, cks ++ [(c, k)], ?_, by simp [e1], fun q hq => ?_⟩
  · have := (List.getElem?_eq_some_iff.mp ei).1
    rw [List.getElem?_set_ne (by omega)]
    exact x _ _ ei
  · rw [List.getElem?_set_self (List.getElem?_eq_some_iff.mp e0).1]
    simp
  · have : q.2 ≠ h0.length ∧ h'[q.2]? = some (.lst ((saysOf ws q.1).map vS)) := by
      rcases List.mem_append.mp hq with hq | hq
      · exact e2 q hq
      · rw [List.mem_singleton.mp hq]
        exact ⟨hk, e⟩
    refine ⟨this.1, ?_⟩
    rw [List.getElem?_set_ne (Ne.symm this.1)]
    exact this.2
end K89
end

section
set_option Elab.async false
set_option linter.all false
set_option maxRecDepth 100000
set_option maxHeartbeats 2000000
namespace K89
open PySem L2 R
theorem e_are_kin : P.fn "are_kin" = some d_are_kin := by rfl
theorem q_are_kin (n : Nat) {ms ws : List Str} {r1 r2 : List Rule} {t u : Nat} {h : PH} (v : ValN ms ws) (a : TalkAt h t ⟨ms, ws, r1⟩) (b : TalkAt h u ⟨ms, ws, r2⟩) : Fn P (n + 1) "are_kin" [.ref t, .ref u] h = .ok (.bl true) h := by
  rw [fn_eq e_are_kin rfl]
  have dm : DV h 2 (.tup (ms.map .str)) := (dv_tup (by decide) (dv_strs fun s hs => (v.nm s hs).ok)).1
  have dw : DV h 2 (.tup (ws.map .str)) := (dv_tup (by decide) (dv_strs fun s hs => (v.nw s hs).ok)).1
  have d : DV h 3 (.tup [.tup (ms.map .str), .tup (ws.map .str)]) := (dv_tup (k := 2) (by decide) fun x hx => by
    simp only [List.mem_cons, List.not_mem_nil, or_false] at hx
    rcases hx with rfl | rfl
    · exact dm
    · exact dw).1
  have q := q_eq (F := Fn P n) d d rfl
  have a1 : lookF P h (.ref t) "moods" = some (.tup (ms.map .str)) := a.moods
  have a2 : lookF P h (.ref t) "words" = some (.tup (ws.map .str)) := a.words
  have b1 : lookF P h (.ref u) "moods" = some (.tup (ms.map .str)) := b.moods
  have b2 : lookF P h (.ref u) "words" = some (.tup (ws.map .str)) := b.words
  simp [d_are_kin, R.run, exs, ex, a1, a2, b1, b2, q]
theorem e_are_alike : P.fn "are_alike" = some d_are_alike := by rfl
theorem s_are_alike (n : Nat) {ms ws : List Str} {r1 r2 : List Rule} {t u : Nat} {h : PH} (V : ValT ⟨ms, ws, r1⟩) (V2 : ValT ⟨ms, ws, r2⟩) (a : TalkAt h t ⟨ms, ws, r1⟩) (b : TalkAt h u ⟨ms, ws, r2⟩) :
    sat (Fn P (n + 5) "are_alike" [.ref t, .ref u] h) fun x h' => x = .bl (number ⟨ms, ws, r1⟩ == number ⟨ms, ws, r2⟩) ∧ Ex h h' := by
  refine sat_fn e_are_alike rfl ?_
  have q1 : Fn P (n + 4) "need_talk" [.ref t, .str "one"] h = _ := q_need_talk (n + 3) a
  have q2 : Fn P (n + 4) "need_talk" [.ref u, .str "other"] h = _ := q_need_talk (n + 3) b
  have q3 : Fn P (n + 4) "are_kin" [.ref t, .ref u] h = _ := q_are_kin (n + 3) V.n a b
  have q4 : Fn P (n + 4) "number_in" [.ref t] h = _ := q_number_in n a V.v
  have x4 := Ex.app h [PO.lst ((casesOf ms ws).map caseV)]
  have q5 : Fn P (n + 4) "number_in" [.ref u] (h ++ [PO.lst ((casesOf ms ws).map caseV)]) = _ := q_number_in n (b.ex x4) V2.v
  have x5 := Ex.app (h ++ [PO.lst ((casesOf ms ws).map caseV)]) [PO.lst ((casesOf ms ws).map caseV)]
  have xx := x4.trans x5
  have ce : ∀ x y : Nat, ((x : Int) == (y : Int)) = (x == y) := fun x y => by
    rw [Bool.eq_iff_iff, beq_iff_eq, beq_iff_eq]
    omega
  simp only [d_are_alike, exs, osat_bind, List.map_cons, List.map_nil, List.length_cons, List.length_nil, List.cons_append, List.nil_append]
  refine exp_sat (eq_sat (v := .non) (h := h) (by simp [q1]) ?_)
  refine exp_sat (eq_sat (v := .non) (h := h) (by simp [q2]) ?_)
  refine ret_sat (eq_sat (v := .bl (number ⟨ms, ws, r1⟩ == number ⟨ms, ws, r2⟩)) (h := h ++ [.lst ((casesOf ms ws).map caseV)] ++ [.lst ((casesOf ms ws).map caseV)]) ?_ ⟨rfl, xx⟩)
  generalize hg : h ++ [PO.lst ((casesOf ms ws).map caseV)] = g at *
  simp [q3, q4, hg, q5, ce]
theorem e_plain_talk : P.fn "plain_talk" = some d_plain_talk := by rfl
theorem s_plain_talk (n : Nat) {T : Tk} {t : Nat} {h : PH} (V : ValT T) (a : TalkAt h t T) : sat (Fn P (n + 6) "plain_talk" [.ref t] h) fun x h' => ∃ t', x = .ref t' ∧ TalkAt h' t' (plainTk T.moods T.words (number T)) ∧ Ex h h' := by
  refine sat_fn e_plain_talk rfl ?_
  have q1 : Fn P (n + 5) "need_talk" [.ref t, .str "talk"] h = _ := q_need_talk (n + 4) a
  have q4 : Fn P (n + 5) "number_in" [.ref t] h = _ := q_number_in (n + 1) a V.v
  have x4 := Ex.app h [PO.lst ((casesOf T.moods T.words).map caseV)]
  simp only [d_plain_talk, exs, osat_bind, List.map_cons, List.map_nil, List.length_cons, List.length_nil, List.cons_append, List.nil_append]
  refine exp_sat (eq_sat (v := .non) (h := h) (by simp [q1]) ?_)
  refine ret_sat ?_
  simp only [v_fn, q_evs_var, v_var, q_evs_fn, q_evs_nil, List.getD_cons_zero, rs_of_some, Rs.bind_ok, q4]
  refine sat_mono (s_plain_by n (a.ex x4) V.n (number T)) fun v h' ⟨t', e, b, x⟩ => ⟨t', e, b, x4.trans x⟩
theorem e_apart : P.fn "apart" = some d_apart := by rfl
/-- the cases in which two talks part -/
def partsOf (T U : Tk) : List Case := (casesOf T.moods T.words).filter fun c => !(placeOf T c == placeOf U c)
theorem s_apart (n : Nat) {ms ws : List Str} {r1 r2 : List Rule} {t u : Nat} {h : PH} (V : ValT ⟨ms, ws, r1⟩) (V2 : ValT ⟨ms, ws, r2⟩) (a : TalkAt h t ⟨ms, ws, r1⟩) (b : TalkAt h u ⟨ms, ws, r2⟩) :
    sat (Fn P (n + 5) "apart" [.ref t, .ref u] h) fun x h' => x = .tup ((partsOf ⟨ms, ws, r1⟩ ⟨ms, ws, r2⟩).map caseV) ∧ Ex h h' := by
  refine sat_fn e_apart rfl ?_
  have q1 : Fn P (n + 4) "need_talk" [.ref t, .str "one"] h = _ := q_need_talk (n + 3) a
  have q2 : Fn P (n + 4) "need_talk" [.ref u, .str "other"] h = _ := q_need_talk (n + 3) b
  have q3 : Fn P (n + 4) "are_kin" [.ref t, .ref u] h = _ := q_are_kin (n + 3) V.n a b
  have q4 : Fn P (n + 4) "all_cases" [.ref t] h = _ := q_all_cases (n + 3) a V.v.v.m5 V.v.v.w4
  have x4 := Ex.app h [PO.lst ((casesOf ms ws).map caseV)]
  have cle := cases_le V.v.v
  dsimp only at q4 cle
  simp only [d_apart, exs, osat_bind, List.map_cons, List.map_nil, List.length_cons, List.length_nil, List.cons_append, List.nil_append]
  refine exp_sat (eq_sat (v := .non) (h := h) (by simp [q1]) ?_)
  refine exp_sat (eq_sat (v := .non) (h := h) (by simp [q2]) ?_)
  refine ife_f (eq_sat (v := .bl false) (h := h) (by simp [q3]) ⟨rfl, ?_⟩)
  simp only [exs, osat_nx]
  refine ret_sat ?_
  have g := get_new h (.lst ((casesOf ms ws).map caseV))
  have a4 := a.ex x4
  have b4 := b.ex x4
  generalize h ++ [PO.lst ((casesOf ms ws).map caseV)] = h4 at *
  refine eq_sat (v := .tup ((partsOf ⟨ms, ws, r1⟩ ⟨ms, ws, r2⟩).map caseV)) (h := h4) ?_ ⟨rfl, x4⟩
  have main : ev P (Fn P (n + 4)) (.lcm true (.one 2) [2] (.itE (.fn "all_cases" [(.var 0)])) (.cmp .ne (.fn "place_of" [(.var 0), (.var 2)]) (.fn "place_of" [(.var 1), (.var 2)])) (.emit (.var 2))) [some (.ref t), some (.ref u), none] h = .ok (.fro ((partsOf ⟨ms, ws, r1⟩ ⟨ms, ws, r2⟩).map caseV)) h4 := by
    refine sat_eq ?_
    have sr := src_ref g
    simp only [ev, q_evs_var, q_evs_nil, evIt, Rs.bind_ok, sat_bind, sat_noEr, List.getD_cons_succ, List.getD_cons_zero, rs_of_some, q4, sr, sat_ok]
    refine cl_all (l := ((casesOf ms ws).map caseV).map .one) (Inv := fun pre acc h' => h' = h4 ∧ ∃ p, pre = (p.map caseV).map .one ∧ acc = (p.filter fun c => !(placeOf ⟨ms, ws, r1⟩ c == placeOf ⟨ms, ws, r2⟩ c)).map caseV) ⟨rfl, [], rfl, rfl⟩ (fun pre acc h' I => by rw [I.1]; exact yields_ref g) ?_ ?_
    · rintro pre x post acc h' hl2 ⟨rfl, p, rfl, rfl⟩
      rw [List.map_map] at hl2
      obtain ⟨p2, c, r, hc, h1, rfl, rfl⟩ := split_map hl2
      rw [List.map_map] at h1
      have := map_inj' (f := Itm.one ∘ caseV) (fun a b => itm_inj) h1
      subst this
      have hmem : c ∈ casesOf ms ws := by rw [hc]; simp
      have p1 : Fn P (n + 4) "place_of" [.ref t, caseV c] h' = _ := q_place_of (n + 1) a4 V.v hmem
      have p3 : Fn P (n + 4) "place_of" [.ref u, caseV c] h' = _ := q_place_of (n + 1) b4 V2.v hmem
      refine ⟨_, rfl, ?_⟩
      have lz : (p.filter fun c => !(placeOf ⟨ms, ws, r1⟩ c == placeOf ⟨ms, ws, r2⟩ c)).length < sizeL := by
        have h1 := List.length_filter_le (fun c => !(placeOf ⟨ms, ws, r1⟩ c == placeOf ⟨ms, ws, r2⟩ c)) p
        have h2 := congrArg List.length hc
        rw [List.length_append, List.length_cons] at h2
        unfold sizeL; omega
      have ce : ∀ x y : Nat, ((x : Int) == (y : Int)) = (x == y) := fun x y => by
        rw [Bool.eq_iff_iff, beq_iff_eq, beq_iff_eq]
        omega
      cases hb : (placeOf ⟨ms, ws, r1⟩ c == placeOf ⟨ms, ws, r2⟩ c) with
      | true =>
        simp [wipeS, p1, p3, ce, hb]
        exact ⟨p ++ [c], by simp, by simp [hb]⟩
      | false =>
        simp [wipeS, p1, p3, ce, hb, evC, asgV]
        rw [if_pos lz]
        exact ⟨rfl, p ++ [c], by simp, by simp [hb]⟩
    · rintro acc h' ⟨rfl, p, h1, rfl⟩
      rw [List.map_map, List.map_map] at h1
      have := map_inj' (f := Itm.one ∘ caseV) (fun a b => itm_inj) h1
      subst this
      exact ⟨rfl, rfl⟩
  simp [main]
end K89
end

section
set_option Elab.async false
set_option linter.all false
set_option maxRecDepth 100000
set_option maxHeartbeats 2000000
namespace K89
open PySem L2 R
/-! ### what is seen in a case, and its place -/
def lplace (ms ws : List Str) (c : Case) (D : Str × OS × Bool) : Nat := ms.idxOf D.1 + ms.length * (saysOf ws c).idxOf D.2.1 + if D.2.2 then 0 else ms.length * (saysOf ws c).length
theorem lplace_eq (T : Tk) (c : Case) : lplace T.moods T.words c (does T c) = placeOf T c := by
  unfold lplace placeOf toldOf does
  simp only
  have h0 := idx_none T.words c
  have e : (saysOf T.words c).idxOf (if (answer T c).2.1 ∈ saysOf T.words c then (answer T c).2.1 else none) = if (answer T c).2.1 ∈ saysOf T.words c then (saysOf T.words c).idxOf (answer T c).2.1 else 0 := by
    split
    · rfl
    · exact h0
  rw [e, Nat.mul_add, Nat.add_assoc]
  congr 2
  cases dropOf c <;> cases (answer T c).2.2 <;> simp
theorem place_iff {ms ws : List Str} {r1 r2 : List Rule} (V : Val ⟨ms, ws, r1⟩) (V2 : Val ⟨ms, ws, r2⟩) {c : Case} (hc : c ∈ casesOf ms ws) : placeOf ⟨ms, ws, r1⟩ c = placeOf ⟨ms, ws, r2⟩ c ↔ does ⟨ms, ws, r1⟩ c = does ⟨ms, ws, r2⟩ c := by
  constructor
  · intro h
    have h1 := does_by V hc
    have h2 := does_by V2 hc
    dsimp only at h1 h2
    rw [← h1, ← h2, h]
  · intro h
    have h1 := lplace_eq ⟨ms, ws, r1⟩ c
    have h2 := lplace_eq ⟨ms, ws, r2⟩ c
    dsimp only at h1 h2
    rw [← h1, ← h2, h]
/-- the law's own way -/
def ldoes (T : Tk) (c : Case) : Str × OS × Bool := ((answer T c).1, if (answer T c).2.1 == some sGive && (c.1 == sLack && !(c.2.2 == sGive)) then none else (answer T c).2.1, (answer T c).2.2 || (!(c.1 == sLack) || !(c.2.2 == sGive)))
theorem say_ok {T : Tk} (V : Val T) (c : Case) : ∀ s, (answer T c).2.1 = some s → s = sGive ∨ s ∈ T.words := by
  unfold answer
  split
  · intro s e; cases e
  · rename_i r h
    intro s e
    exact (V.ok r (find_mem h)).say s e
theorem ldoes_eq {T : Tk} (V : Val T) (c : Case) : ldoes T c = does T c := by
  unfold ldoes does
  refine Prod.ext rfl (Prod.ext ?_ ?_)
  · have ok := say_ok V c
    have ng := (List.nodup_cons.mp (List.nodup_cons.mp V.v.en).2).1
    generalize (answer T c).2.1 = o at ok
    simp only
    cases o with
    | none =>
      rw [if_pos (none_mem_says _ _)]
      rfl
    | some s =>
      cases b1 : (c.1 == sLack) <;> cases b2 : (c.2.2 == sGive) <;> simp only [beq_iff_eq, beq_eq_false_iff_ne, ne_eq] at b1 b2 <;> rcases ok s rfl with rfl | hs
      all_goals (unfold saysOf; simp [b1, b2])
      all_goals first
        | assumption
        | exact fun _ => hs
        | (have nz : ¬s = sGive := fun z => ng (by rw [← z]; exact hs)
           simp [nz, hs])
  · unfold dropOf
    cases (answer T c).2.2 <;> cases (c.1 == sLack) <;> cases (c.2.2 == sGive) <;> rfl
theorem q_eq_ns {F : FF} {h : PH} (b : Str) : cmpE P F .eq .non (.str b) h = .ok (.bl false) h := by simp [cmpE, methOf, doCmp, scalP, eqP]
theorem e_does : P.fn "_law_does" = some d__law_does := by rfl
theorem q_does (n : Nat) {T : Tk} {d : Nat} {h : PH} (pl : PlainAt h d T) (V : Val T) (c : Case) : Fn P (n + 2) "_law_does" [.ref d, caseV c] h = .ok (ansV (does T c)) h := by
  rw [fn_eq e_does rfl]
  have q1 : Fn P (n + 1) "_law_rule" [.ref d, .str c.1, .str c.2.1, .str c.2.2] h = _ := q_lrule n pl c
  rw [← ldoes_eq V]
  unfold ldoes
  have ca : caseV c = .tup [.str c.1, .str c.2.1, .str c.2.2] := rfl
  generalize answer T c = a at *
  obtain ⟨a1, a2, a3⟩ := a
  dsimp only at *
  have b0 : ∀ o : OS, (o == some sGive) = true ∨ (o == some sGive) = false := fun o => by cases (o == some sGive) <;> simp
  cases a2 with
  | none => cases b1 : (c.1 == sLack) <;> cases b2 : (c.2.2 == sGive) <;> cases a3 <;> simp only [sLack, sGive] at b1 b2 <;> simp [d__law_does, R.run, exs, ex, q1, ca, ansV, asgV, setAll, b1, b2, sLack, sGive, q_eq_ns]
  | some s => cases b3 : (s == sGive) <;> cases b1 : (c.1 == sLack) <;> cases b2 : (c.2.2 == sGive) <;> cases a3 <;> simp only [sLack, sGive] at b1 b2 b3 <;> simp [d__law_does, R.run, exs, ex, q1, ca, ansV, asgV, setAll, b1, b2, b3, sLack, sGive]
end K89
end

section
set_option Elab.async false
set_option linter.all false
set_option maxRecDepth 100000
set_option maxHeartbeats 2000000
namespace K89
open PySem L2 R
theorem e_lcases : P.fn "_law_cases" = some d__law_cases := by rfl
theorem str_itm {l m : List Str} (h : l.map (Itm.one ∘ PV.str) = m.map (Itm.one ∘ PV.str)) : l = m := map_inj' (f := Itm.one ∘ PV.str) (fun a b e => by injection e with e; injection e) h
theorem str_split {l : List Str} {p : List Str} {post : List Itm} {x : Itm} (e : (l.map PV.str).map Itm.one = (p.map PV.str).map Itm.one ++ x :: post) : ∃ s q, l = p ++ s :: q ∧ x = .one (.str s) := by
  rw [List.map_map] at e
  obtain ⟨p', a, q, h1, h2, h3, h4⟩ := split_map e
  rw [List.map_map] at h2
  have := str_itm h2
  subst this
  exact ⟨a, q, h1, h3⟩
def rowsM (ws : List Str) (s : Str) (ms : List Str) : List Case := ms.flatMap fun m => (evs ws).map fun e => (s, m, e)
theorem rowsM_snoc (ws : List Str) (s : Str) (ms : List Str) (m : Str) : rowsM ws s (ms ++ [m]) = rowsM ws s ms ++ (evs ws).map fun e => (s, m, e) := by
  unfold rowsM
  rw [List.flatMap_append]
  simp
def CaI (h0 : PH) (done : List Case) (v : Option PV) (h' : PH) : Prop := Ex h0 h' ∧ ∃ L, v = some (.ref L) ∧ h'[L]? = some (.lst (done.map caseV))
/-- the rows of a status and a mood -/
theorem q_rows {n d A B C : Nat} {g : PH} {ws : List Str} {st m : Str} {x1 x4 : Option PV} (eg : g[d]? = some (.dic [(Sum.inr "moods", .ref A), (Sum.inr "words", .ref B), (Sum.inr "rules", .ref C)])) (eB : g[B]? = some (.lst (ws.map .str))) (hw : ws.length ≤ 4) :
    ∃ g' k, ev P (Fn P n) (.lcm false (.one 4) [4] (.itE (.bin .add (.lst false [(.con (.str "beat")), (.con (.str "give"))]) (.blt .list [(.ix (.var 0) (.con (.str "words")))]))) (.con (.bl true)) (.emit (.tup [(.var 2), (.var 3), (.var 4)]))) [some (.ref d), x1, some (.str st), some (.str m), x4] g = .ok (.ref k) g' ∧ Ex g g' ∧ g'[k]? = some (.lst (((evs ws).map fun e => (st, m, e)).map caseV)) := by
  have k1 := Ex.app g [PO.lst [.str "beat", .str "give"]]
  have k2 := Ex.app (g ++ [PO.lst [.str "beat", .str "give"]]) [PO.lst (ws.map .str)]
  have k3 := Ex.app (g ++ [PO.lst [.str "beat", .str "give"]] ++ [PO.lst (ws.map .str)]) [PO.lst ((evs ws).map .str)]
  have i1 := (ix_dic (k1 _ _ eg)).2.1
  have l1 := q_list_ref (k1 _ _ eB)
  have b1 := k2 _ _ (get_new g (.lst [.str "beat", .str "give"]))
  have b2 := get_new (g ++ [PO.lst [.str "beat", .str "give"]]) (.lst (ws.map .str))
  have ev3 := get_new (g ++ [PO.lst [.str "beat", .str "give"]] ++ [PO.lst (ws.map .str)]) (.lst ((evs ws).map .str))
  have x13 := k1.trans (k2.trans k3)
  generalize hg1 : g ++ [PO.lst [.str "beat", .str "give"]] = g1 at *
  generalize hg2 : g1 ++ [PO.lst (ws.map .str)] = g2 at *
  generalize hE : g2.length = E at *
  have ad : doBin .add (.ref g.length) (.ref g1.length) g2 = .ok (.ref E) (g2 ++ [.lst ((evs ws).map .str)]) := by
    simp only [doBin, b1, b2]
    rw [if_pos (by simp; unfold sizeL; omega)]
    simp [hE]
    rfl
  generalize hg3 : g2 ++ [PO.lst ((evs ws).map .str)] = g3 at *
  have el : (evs ws).length ≤ 6 := by simp [evs]; omega
  refine ⟨g3 ++ [.lst (((evs ws).map fun e => (st, m, e)).map caseV)], g3.length, ?_, x13.trans (Ex.app _ _), get_new _ _⟩
  have cm := cl_map (tg := .one 4) (vs := [4]) (c := fun s h => Rs.ok true h) (body := fun s h acc => evC P (Fn P n) (.emit (.tup [(.var 2), (.var 3), (.var 4)])) s h acc) (src := .ref E) (sl := [some (.ref d), x1, some (.str st), some (.str m), x4]) (f := fun i => match i with
    | .one (.str e) => caseV (st, m, e)
    | _ => .non) (l := ((evs ws).map PV.str).map .one) (h := g3) [] (yields_ref ev3) (fun x hx => by
      rw [List.map_map, List.mem_map] at hx
      obtain ⟨e, _, rfl⟩ := hx
      refine ⟨_, rfl, rfl, fun acc hz => ?_⟩
      simp [evC, wipeS, caseV, asgV]
      omega) (by simp; unfold sizeL; omega)
  have im : (((evs ws).map PV.str).map Itm.one).map (fun i => match i with
    | .one (.str e) => caseV (st, m, e)
    | _ => .non) = ((evs ws).map fun e => (st, m, e)).map caseV := by
    rw [List.map_map, List.map_map, List.map_map]
    rfl
  rw [im, List.nil_append] at cm
  have it : evIt P (Fn P n) (.itE (.bin .add (.lst false [(.con (.str "beat")), (.con (.str "give"))]) (.blt .list [(.ix (.var 0) (.con (.str "words")))]))) [some (.ref d), x1, some (.str st), some (.str m), x4] g = .ok (.ref E) g3 := by
    simp [evIt, newF, hg1, i1, l1, hg2, ad, src_ref ev3]
  refine sat_eq ?_
  simp only [ev, it, Rs.bind_ok, sat_bind, sat_noEr, tru_bl, rs_of_some]
  refine eq_sat cm ?_
  simp [newF]
/-- so many cases at most: those of whole statuses and of some moods -/
theorem rows_le {ms ws : List Str} (hm : ms.length ≤ 5) (hw : ws.length ≤ 4) {ss : List Str} (hs : ss.length ≤ 3) {st : Str} {mm : List Str} (h2 : mm.length ≤ 5) : ((ss.flatMap fun s => rowsM ws s ms) ++ rowsM ws st mm).length ≤ 1000 := by
  have r1 : ∀ s (k : List Str), (rowsM ws s k).length = k.length * (ws.length + 2) := fun s k => by
    unfold rowsM
    rw [length_flatMap_const (k := ws.length + 2) fun _ _ => by simp [evs]]
  rw [List.length_append, length_flatMap_const (k := ms.length * (ws.length + 2)) (fun s _ => r1 s ms), r1]
  have q1 := Nat.mul_le_mul hm (show ws.length + 2 ≤ 6 by omega)
  have q2 := Nat.mul_le_mul h2 (show ws.length + 2 ≤ 6 by omega)
  have q3 := Nat.mul_le_mul hs q1
  omega
theorem s_lcases (n : Nat) {T : Tk} {d : Nat} {h : PH} (pl : PlainAt h d T) (v : ValM T.moods T.words) : sat (Fn P (n + 1) "_law_cases" [.ref d] h) fun x h' => Ex h h' ∧ ∃ L, x = .ref L ∧ h'[L]? = some (.lst ((casesOf T.moods T.words).map caseV)) := by
  refine sat_fn e_lcases rfl ?_
  obtain ⟨A, B, C, e, eA, eB, eC⟩ := pl
  obtain ⟨ms, ws, rs⟩ := T
  dsimp only at *
  have m5' := v.m5
  have w4' := v.w4
  simp only [d__law_cases, exs, osat_bind, List.map_cons, List.map_nil, List.length_cons, List.length_nil, List.cons_append, List.nil_append]
  refine set_sat (eq_sat (v := .ref h.length) (h := h ++ [.lst []]) (by simp [newF]) ?_)
  have ci0 : CaI h [] (some (.ref h.length)) (h ++ [.lst []]) := ⟨Ex.app _ _, _, rfl, get_new _ _⟩
  generalize h ++ [PO.lst []] = h1 at *
  generalize h.length = L0 at *
  refine forx (r := .its (statuses.map .str)) (h' := h1) (by simp [evIt, statuses, sLack, sAside, sHave]) ?_
  refine for_all (l := (statuses.map PV.str).map .one) (Inv := fun pre s h' => ∃ ss x1 x2 x3 x4, pre = (ss.map PV.str).map .one ∧ s = [some (.ref d), x1, x2, x3, x4] ∧ CaI h (ss.flatMap fun s => rowsM ws s ms) x1 h')
    ⟨[], _, none, none, none, rfl, rfl, ci0⟩ (fun _ _ _ _ => yields_its _ _) ?_ ?_
  · rintro pre x post s h' hl ⟨ss, x1, x2, x3, x4, rfl, rfl, ci⟩
    obtain ⟨st, sq, hst, rfl⟩ := str_split hl
    refine ⟨_, rfl, ?_⟩
    simp only [exs, osat_bind, osat_nx]
    have hs3 : ss.length ≤ 3 := by
      have := congrArg List.length hst
      rw [List.length_append, show statuses.length = 3 from rfl] at this
      omega
    have eM := ci.1 _ _ eA
    refine forx (r := .ref A) (h' := h') (by simp [evIt, (ix_dic (ci.1 _ _ e)).1, src_ref eM]) ?_
    refine for_all (l := (ms.map PV.str).map .one) (Inv := fun pre s g => ∃ mm x1 x3 x4, pre = (mm.map PV.str).map .one ∧ s = [some (.ref d), x1, some (.str st), x3, x4] ∧ CaI h ((ss.flatMap fun s => rowsM ws s ms) ++ rowsM ws st mm) x1 g)
      ⟨[], _, _, _, rfl, rfl, by simpa [rowsM] using ci⟩ (fun _ s g I => by
        obtain ⟨mm, _, _, _, _, _, c⟩ := I
        exact yields_ref (c.1 _ _ eA)) ?_ ?_
    · rintro pre x post s g hl2 ⟨mm, x1, x3, x4, rfl, rfl, cx, L, rfl, gL⟩
      obtain ⟨m, mq, hm, rfl⟩ := str_split hl2
      refine ⟨_, rfl, ?_⟩
      simp only [exs, osat_bind, osat_nx]
      have hm5 : mm.length ≤ 5 := by
        have := congrArg List.length hm
        rw [List.length_append] at this
        omega
      obtain ⟨g', k, r1, r2, r3⟩ := q_rows (n := n) (st := st) (m := m) (x1 := some (.ref L)) (x4 := x4) (cx _ _ e) (cx _ _ eB) w4'
      have gL' := r2 _ _ gL
      have le := rows_le m5' w4' hs3 (st := st) hm5
      refine set_sat ?_
      rw [v_bin, v_var]
      simp only [List.set_cons_succ, List.set_cons_zero, List.getD_cons_succ, List.getD_cons_zero, rs_of_some, Rs.bind_ok]
      rw [r1]
      simp only [Rs.bind_ok, doBin, gL', r3]
      rw [if_pos (by
        rw [List.length_map, List.length_map, List.length_map]
        have : (evs ws).length ≤ 6 := by simp [evs]; omega
        unfold sizeL; omega)]
      simp only [newO_eq, sat_ok]
      refine ⟨mm ++ [m], _, _, _, by simp, rfl, cx.trans (r2.trans (Ex.app _ _)), _, rfl, ?_⟩
      rw [get_new, rowsM_snoc, ← List.map_append, List.append_assoc]
    · rintro s g ⟨mm, x1, x3, x4, he, rfl, cj⟩
      rw [List.map_map, List.map_map] at he
      have := str_itm he
      subst this
      exact ⟨ss ++ [st], _, _, _, _, by simp, rfl, by simpa using cj⟩
  · rintro s g ⟨ss, x1, x2, x3, x4, he, rfl, cx, L, rfl, gL⟩
    rw [List.map_map, List.map_map] at he
    have := str_itm he
    subst this
    simp [ex]
    exact ⟨cx, gL⟩
end K89
end

section
set_option Elab.async false
set_option linter.all false
set_option maxRecDepth 100000
set_option maxHeartbeats 2000000
namespace K89
open PySem L2 R
theorem e_otherwise : P.fn "_law_otherwise" = some d__law_otherwise := by rfl
/-- between the ifs -/
def OI (p d : Nat) (way : Nat) (ms ws : List Str) (h : PH) (k : Nat) (s : Sl) (h' : PH) : Prop := ∃ (L : Nat) (x4 x5 x6 : Option PV), s = [some (.ref p), some (.ref d), some (.ref L), some (.int (way : Nat)), x4, x5, x6] ∧ h.length ≤ L ∧ Px h h' ∧ LR ms ws k h' L
theorem OI.up {p d way : Nat} {ms ws : List Str} {h : PH} {k m : Nat} {s : Sl} {h' : PH} (o : OI p d way ms ws h k s h') (l : k ≤ m) : OI p d way ms ws h m s h' :=
  let ⟨L, x4, x5, x6, e, hl, x, l', g, r, z⟩ := o
  ⟨L, x4, x5, x6, e, hl, x, l', g, r, Nat.le_trans z l⟩
theorem isRb_app {ms ws : List Str} : isRb ms ws (.tup [.str "lack", .non, .str "beat", .non, .str "give", .bl true]) = true := isRb_mk (by decide +kernel) rfl (by simp [evs, sBeat]) rfl (by simp [oS, sGive])
/-- way 1 -/
theorem o_way1 {n p d way k : Nat} {ms ws : List Str} {h : PH} {s : Sl} {h' : PH} {D : Po} (o : OI p d way ms ws h k s h') (hk : k ≤ 80) (q : ∀ s h', OI p d way ms ws h (k + 1) s h' → D.nx s h') :
    osat (ex P (Fn P n) (.ife (.cmp .eq (.var 3) (.con (.int 1))) [.exp (.bm .append (.var 2) [(.tup [(.con (.str "lack")), (.con .non), (.con (.str "beat")), (.con .non), (.con (.str "give")), (.con (.bl true))])])] []) s h') D := by
  obtain ⟨L, x4, x5, x6, rfl, hl, x, lr⟩ := o
  refine ife_sat (eq_sat (v := .bl ((way : Int) == 1)) (h := h') (by simp) ?_)
  cases hb : ((way : Int) == 1) with
  | false =>
    right
    refine ⟨rfl, ?_⟩
    simp only [exs, osat_nx]
    exact q _ _ (OI.up ⟨L, x4, x5, x6, rfl, hl, x, lr⟩ (Nat.le_succ k))
  | true =>
    left
    refine ⟨rfl, ?_⟩
    simp only [exs, osat_bind, osat_nx]
    refine app_sat (ms := ms) (ws := ws) (k := k) rfl rfl lr hk ?_
    refine eq_sat (v := .tup [.str "lack", .non, .str "beat", .non, .str "give", .bl true]) (h := h') (by simp) ⟨isRb_app, Px.refl _, fun l lr' => q _ _ ⟨L, x4, x5, x6, rfl, hl, x.set hl, lr'⟩⟩
theorem isRb_w2 {ms ws : List Str} : isRb ms ws (.tup [.str "have", .non, .str "give", .non, .non, .bl false]) = true := isRb_mk (by decide +kernel) rfl (by simp [evs, sGive]) rfl rfl
def W2I (ms ws : List Str) (g0 : PH) (pre : List Itm) (acc : List PV) (g' : PH) : Prop := g' = g0 ∧ acc.length = pre.length ∧ AllR ms ws acc
/-- way 2 -/
theorem o_way2 {n p d way k : Nat} {ms ws : List Str} {h : PH} {s : Sl} {h' : PH} {D : Po} (v : ValN ms ws) (o : OI p d way ms ws h k s h') (hk : k ≤ 80) (q : ∀ s h', OI p d way ms ws h k s h' → D.nx s h') :
    osat (ex P (Fn P n) (.ife (.cmp .eq (.var 3) (.con (.int 2))) [.set 2 (.lcm false (.one 5) [5] (.itE (.var 2)) (.con (.bl true)) (.emit (.ite (.cmp .eq (.var 5) (.ix (.var 2) (.con (.int 0)))) (.tup [(.con (.str "have")), (.con .non), (.con (.str "give")), (.con .non), (.con .non), (.con (.bl false))]) (.var 5))))] []) s h') D := by
  obtain ⟨L, x4, x5, x6, rfl, hl, x, l, g, r, z⟩ := o
  refine ife_sat (eq_sat (v := .bl ((way : Int) == 2)) (h := h') (by simp) ?_)
  cases hb : ((way : Int) == 2) with
  | false =>
    right
    refine ⟨rfl, ?_⟩
    simp only [exs, osat_nx]
    exact q _ _ ⟨L, x4, x5, x6, rfl, hl, x, l, g, r, z⟩
  | true =>
    left
    refine ⟨rfl, ?_⟩
    simp only [exs, osat_bind, osat_nx]
    refine set_sat ?_
    have sr := src_ref g
    simp only [ev, evIt, Rs.bind_ok, sat_bind, sat_noEr, List.getD_cons_succ, List.getD_cons_zero, rs_of_some, sr, tru_bl, sat_ok]
    refine cl_all (l := l.map .one) (Inv := W2I ms ws h') ⟨rfl, rfl, fun x hx => absurd hx List.not_mem_nil⟩ (fun pre acc g' I => by rw [I.1]; exact yields_ref g) ?_ ?_
    · rintro pre y post acc g' hl2 ⟨rfl, la, ra⟩
      obtain ⟨p1, c, q1, hc, _, rfl, h4⟩ := split_map hl2
      refine ⟨_, rfl, ?_⟩
      have hcm : c ∈ l := by rw [hc]; simp
      have hpos : 0 < l.length := List.length_pos_of_mem hcm
      have h0m : l[0] ∈ l := List.getElem_mem hpos
      have d1 := (r.dv v) c hcm g'
      have d2 := (r.dv v) l[0] h0m g'
      have at0 : atI l 0 = some l[0] := atI_of hpos
      have ix := q_ix_ref 0 g
      rw [at0] at ix
      obtain ⟨rc, ec, _⟩ := isR (r c hcm)
      obtain ⟨r0, e0, _⟩ := isR (r l[0] h0m)
      have cq : cmpE P (Fn P n) .eq c l[0] g' = .ok (.bl (PyData.eqv (dd g' c) (dd g' l[0]))) g' := by
        have := d_eq d1 d2 (by rw [ec, e0]; rfl)
        rw [ec] at this ⊢
        simp only [cmpE]
        exact this
      have lz : acc.length < sizeL := by
        have := congrArg List.length hl2
        rw [List.length_map, List.length_append, List.length_cons] at this
        unfold sizeL; omega
      have fin : ∀ w : PV, isRb ms ws w = true → W2I ms ws g' (pre ++ [Itm.one c]) (acc ++ [w]) g' := fun w hw => by
        refine ⟨rfl, by rw [List.length_append, List.length_append, la]; rfl, ra.app fun y hy => ?_⟩
        rw [List.mem_singleton.mp hy]
        exact hw
      show sat (evC P (Fn P n) _ _ _ _) _
      cases hq : PyData.eqv (dd g' c) (dd g' l[0]) with
      | true =>
        rw [hq] at cq
        simp [evC, wipeS, ix, cq]
        rw [if_pos lz]
        exact fin _ isRb_w2
      | false =>
        rw [hq] at cq
        simp [evC, wipeS, ix, cq]
        rw [if_pos lz]
        exact fin _ (r c hcm)
    · rintro acc g' ⟨rfl, la, ra⟩
      simp [newF]
      refine q _ _ ⟨_, x4, x5, x6, rfl, Nat.le_trans x.len (Nat.le_refl _), x.trans (Px.app _ _), acc, get_new _ _, ra, ?_⟩
      rw [la, List.length_map]
      exact z
def W3I (p : Nat) (ms ws : List Str) (g0 : PH) (pre : List Itm) (acc : List PV) (g' : PH) : Prop := Px g0 g' ∧ acc.length = pre.length ∧ AllR ms ws acc
/-- way 3 -/
theorem o_way3 {n p d way k : Nat} {ms ws : List Str} {h : PH} {s : Sl} {h' : PH} {D : Po} (a : Pen h p) (o : OI p d way ms ws h k s h') (hk : k ≤ 80) (q : ∀ s h', OI p d way ms ws h (k + 3) s h' → D.nx s h') :
    osat (ex P (Fn P (n + 1)) (.ife (.cmp .eq (.var 3) (.con (.int 3))) [.set 2 (.bin .add (.var 2) (.lcm false (.one 6) [6] (.itE (.tup [(.con (.str "aside")), (.con (.str "have")), (.con (.str "lack"))])) (.con (.bl true)) (.emit (.tup [(.var 6), (.con .non), (.con (.str "give")), (.con .non), (.con .non), (.cmp .eq (.fn "_law_draw" [(.var 0), (.con (.int 2))]) (.con (.int 0)))]))))] []) s h') D := by
  obtain ⟨L, x4, x5, x6, rfl, hl, x, l, g, r, z⟩ := o
  refine ife_sat (eq_sat (v := .bl ((way : Int) == 3)) (h := h') (by simp) ?_)
  cases hb : ((way : Int) == 3) with
  | false =>
    right
    refine ⟨rfl, ?_⟩
    simp only [exs, osat_nx]
    exact q _ _ (OI.up ⟨L, x4, x5, x6, rfl, hl, x, l, g, r, z⟩ (Nat.le_add_right k 3))
  | true =>
    left
    refine ⟨rfl, ?_⟩
    simp only [exs, osat_bind, osat_nx]
    refine set_sat ?_
    rw [v_bin, v_var]
    simp only [List.getD_cons_succ, List.getD_cons_zero, rs_of_some, Rs.bind_ok, sat_bind]
    have a1 := a.px x
    have it : evIt P (Fn P (n + 1)) (.itE (.tup [(.con (.str "aside")), (.con (.str "have")), (.con (.str "lack"))])) [some (.ref p), some (.ref d), some (.ref L), some (.int (way : Nat)), x4, x5, x6] h' = .ok (.its (([sAside, sHave, sLack] : List Str).map .str)) h' := by simp [evIt, sAside, sHave, sLack]
    simp only [ev, it, Rs.bind_ok, sat_bind, sat_noEr, tru_bl, rs_of_some]
    refine cl_all (l := (([sAside, sHave, sLack] : List Str).map PV.str).map .one) (Inv := W3I p ms ws h') ⟨Px.refl _, rfl, fun x hx => absurd hx List.not_mem_nil⟩ (fun pre acc g' I => yields_its _ _) ?_ ?_
    · rintro pre y post acc g' hl2 ⟨px, la, ra⟩
      have hy : y ∈ (([sAside, sHave, sLack] : List Str).map PV.str).map Itm.one := by rw [hl2]; simp
      rw [List.map_map, List.mem_map] at hy
      obtain ⟨st, hst, rfl⟩ := hy
      have ost : oS statuses (.str st) = true := by
        simp only [List.mem_cons, List.not_mem_nil, or_false] at hst
        rcases hst with rfl | rfl | rfl <;> decide +kernel
      refine ⟨_, rfl, ?_⟩
      have lz : acc.length < sizeL := by
        have := congrArg List.length hl2
        rw [List.length_append, List.length_cons] at this
        simp at this
        unfold sizeL; omega
      show sat (evC P (Fn P (n + 1)) _ _ _ _) _
      simp only [evC, sat_bind]
      rw [v_tup, sat_bind]
      simp only [q_evs_var, q_evs_con, v_var, v_con, wipeS, List.foldl_cons, List.foldl_nil, List.set_cons_succ, List.set_cons_zero, List.getD_cons_succ, List.getD_cons_zero, rs_of_some, Rs.bind_ok, sat_bind]
      rw [evs_cons rfl, sat_bind, v_cmp, sat_bind]
      refine p_drawC (n := n) 2 rfl (a1.px px) (by decide) (by decide) fun j hj g2 y2 => ?_
      simp only [v_con, Rs.bind_ok, q_eq_int, sat_ok, q_evs_nil, List.length_cons, List.length_nil]
      rw [if_pos (by unfold sizeL; decide)]
      simp only [sat_ok]
      rw [if_pos lz]
      refine ⟨px.trans y2, by rw [List.length_append, List.length_append, la]; rfl, ra.app fun y hy => ?_⟩
      rw [List.mem_singleton.mp hy]
      exact isRb_mk ost rfl (by simp [evs, sGive]) rfl rfl
    · rintro acc g' ⟨px, la, ra⟩
      have gL := px.lst g r.nop
      have gL2 := (Ex.app g' [PO.lst acc]) _ _ gL
      have gA := get_new g' (.lst acc)
      have l3 : acc.length = 3 := by rw [la]; rfl
      simp only [newF, Bool.false_eq_true, if_false, newO_eq, sat_ok, doBin, gL2, gA]
      rw [if_pos (by unfold sizeL; omega)]
      simp only [newO_eq, sat_ok]
      have lx := ((x.trans px).trans (Px.app g' [PO.lst acc])).len
      refine q _ _ ⟨_, x4, x5, x6, rfl, lx, ((x.trans px).trans (Px.app _ _)).trans (Px.app _ _), _, get_new _ _, r.app ra, by rw [List.length_append]; omega⟩
theorem cut63 {α : Type} (a b c d e f : α) : cutI [a, b, c, d, e, f] none (some 3) = [a, b, c] := cutT [a, b, c, d, e, f] 3
/-- way 0 -/
theorem o_way0 {n p d way k : Nat} {ms ws : List Str} {h : PH} {s : Sl} {h' : PH} {D : Po} (v : ValN ms ws) (a : Pen h p) (o : OI p d way ms ws h k s h') (hk : k ≤ 80) (q : ∀ s h', OI p d way ms ws h (k + 1) s h' → D.nx s h') :
    osat (ex P (Fn P (n + 1)) (.ife (.and (.cmp .eq (.var 3) (.con (.int 0))) (.cmp .ne (.var 2) (.lst false []))) [
    .set 4 (.fn "_law_draw" [(.var 0), (.blt .len [(.var 2)])]),
    .exp (.bm .insert (.var 2) [(.bin .add (.bin .add (.var 4) (.con (.int 1))) (.fn "_law_draw" [(.var 0), (.bin .sub (.blt .len [(.var 2)]) (.var 4))])), (.bin .add (.slT (.ix (.var 2) (.var 4)) (.con (.int 3))) (.tup [(.con .non), (.con (.str "give")), (.con (.bl false))]))])] []) s h') D := by
  obtain ⟨L, x4, x5, x6, rfl, hl, x, l, g, r, z⟩ := o
  refine ife_sat ?_
  rw [v_and, sat_bind]
  refine eq_sat (v := .bl ((way : Int) == 0)) (h := h') (by simp) ?_
  cases hb : ((way : Int) == 0) with
  | false =>
    simp only [tru_bl, sat_ok]
    right
    refine ⟨trivial, ?_⟩
    simp only [exs, osat_nx]
    exact q _ _ (OI.up ⟨L, x4, x5, x6, rfl, hl, x, l, g, r, z⟩ (Nat.le_succ k))
  | true =>
    simp only [tru_bl]
    have x2 := Ex.app h' [PO.lst []]
    have g2 := x2 _ _ g
    have ne := d_ne_nil (k := 5) (by decide) g2 (get_new h' (.lst [])) (fun y hy => r.dv v y hy _)
    have mt : methOf P (h' ++ [.lst []]) (.ref L) strEqS = none := meth_lst g2
    have y2 := x.trans (.of x2)
    refine eq_sat (v := .bl (!l.isEmpty)) (h := h' ++ [.lst []]) (by simp [newF, cmpE, mt, ne]) ?_
    generalize h' ++ [PO.lst []] = h2 at *
    cases he : l.isEmpty with
    | true =>
      right
      refine ⟨rfl, ?_⟩
      simp only [exs, osat_nx]
      exact q _ _ (OI.up ⟨L, x4, x5, x6, rfl, hl, y2, l, g2, r, z⟩ (Nat.le_succ k))
    | false =>
      left
      refine ⟨rfl, ?_⟩
      have hpos : 1 ≤ l.length := by
        cases l with
        | nil => simp at he
        | cons _ _ => simp
      simp only [exs, osat_bind, osat_nx]
      refine set_sat ?_
      refine p_draw (n := n) rfl rfl (a.px y2) (eq_sat (v := .int l.length) (h := h2) (by simp [q_len_ref g2]) ⟨Px.refl _, l.length, rfl, sm_big (by simp; omega), fun j h3 y3 jl _ => ?_⟩)
      have hj : j < l.length := by have := jl (by omega); omega
      have g3 := y3.lst g2 r.nop
      have y23 := y2.trans y3
      refine exp_sat ?_
      have bk := q_bmK (m := .insert) g3
      rw [v_bm, v_var]
      simp only [List.set_cons_succ, List.set_cons_zero, List.getD_cons_succ, List.getD_cons_zero, rs_of_some, Rs.bind_ok, sat_bind, sat_ok, bk]
      rw [evs_cons rfl, sat_bind, v_bin, sat_bind]
      refine eq_sat (v := .int ((j : Int) + 1)) (h := h3) (by simp) ?_
      rw [sat_bind]
      refine p_draw (n := n) rfl rfl (a.px y23) (eq_sat (v := .int ((l.length : Int) - j)) (h := h3) (by simp [q_len_ref g3]) ⟨Px.refl _, (l.length : Int) - j, rfl, sm_big (by omega), fun i h4 y4 il _ => ?_⟩)
      have hi : (i : Int) < (l.length : Int) - j := il (by omega)
      have g4 := y4.lst g3 r.nop
      have y34 := y23.trans y4
      obtain ⟨rr, er, rok⟩ := isR (r l[j] (List.getElem_mem hj))
      have ix := q_ix_ref (j : Int) g4
      rw [atI_of hj, er] at ix
      have rb := r _ (List.getElem_mem hj)
      rw [er] at rb
      have nb : isRb ms ws (.tup [vS rr.st, vS rr.mood, .str rr.ev, .non, .str "give", .bl false]) = true := isRb_mk (o_of rok.st) (o_of rok.mood) (by simpa using rok.ev) rfl (by simp [oS, sGive])
      simp only [q_add_int, sat_ok]
      rw [evs_cons rfl, sat_bind, sat_bind]
      refine eq_sat (v := .tup [vS rr.st, vS rr.mood, .str rr.ev, .non, .str "give", .bl false]) (h := h4) (by simp [ix, ruleV, intOf, doSl, cut63, doBin]) ?_
      simp only [q_evs_nil, Rs.bind_ok, sat_ok, doBm, doBmL, g4, mInsert]
      rw [if_pos ⟨by unfold sizeL; omega, by omega, by omega⟩]
      simp only [sat_ok]
      refine q _ _ ⟨L, _, x5, x6, rfl, hl, y34.set hl, _, List.getElem?_set_self (List.getElem?_eq_some_iff.mp g4).1, fun y hy => ?_, ?_⟩
      · rcases List.mem_append.mp hy with hy | hy
        · rcases List.mem_append.mp hy with hy | hy
          · exact r y (List.mem_of_mem_take hy)
          · rw [List.mem_singleton.mp hy]
            exact nb
        · exact r y (List.mem_of_mem_drop hy)
      · simp only [List.length_append, List.length_take, List.length_drop, List.length_cons, List.length_nil]
        omega
end K89
end

section
set_option Elab.async false
set_option linter.all false
set_option maxRecDepth 100000
set_option maxHeartbeats 2000000
namespace K89
open PySem L2 R
theorem s_otherwise (n : Nat) {h : PH} {p d : Nat} {T : Tk} (a : Pen h p) (pl : PlainAt h d T) (V : ValT T) (r40 : T.rules.length ≤ 40) : sat (Fn P (n + 4) "_law_otherwise" [.ref p, .ref d] h) (DrawnM 45 h T.moods T.words) := by
  refine sat_fn e_otherwise rfl ?_
  have pl0 := pl
  obtain ⟨A, B, C, e, eA, eB, eC⟩ := pl
  have vN := V.n
  have rok := V.v.ok
  obtain ⟨ms, ws, rs⟩ := T
  dsimp only at eA eB eC vN rok r40
  simp only [d__law_otherwise, exs, osat_bind, List.map_cons, List.map_nil, List.length_cons, List.length_nil, List.cons_append, List.nil_append, List.replicate]
  have ar : AllR ms ws (rs.map ruleV) := fun x hx => by
    obtain ⟨r, hr, rfl⟩ := List.mem_map.mp hx
    exact r_is (rok r hr)
  refine unp_sat ?_
  rw [v_tup, sat_bind, evs_cons rfl, sat_bind]
  refine eq_sat (v := .ref h.length) (h := h ++ [.lst (rs.map ruleV)]) (by simp [(ix_dic e).2.2, q_list_ref eC]) ?_
  have gL := get_new h (.lst (rs.map ruleV))
  have y1 : Px h (h ++ [.lst (rs.map ruleV)]) := Px.app _ _
  generalize h ++ [PO.lst (rs.map ruleV)] = h1 at *
  rw [evs_cons rfl, sat_bind, sat_bind]
  refine p_drawC (n := n + 2) 5 rfl (a.px y1) (by decide) (by decide) fun way hw h2 y2 => ?_
  simp only [q_evs_nil, Rs.bind_ok, sat_ok, List.length_cons, List.length_nil, Nat.reduceAdd, sz_lit (show 2 ≤ 100 by decide), if_true]
  refine ⟨_, rfl, ?_⟩
  have o0 : OI p d way ms ws h 40 [some (.ref p), some (.ref d), some (.ref h.length), some (.int (way : Nat)), none, none, none] h2 :=
    ⟨h.length, none, none, none, rfl, Nat.le_refl _, y1.trans y2, _, y2.lst gL ar.nop, ar, by simpa using r40⟩
  simp only [setAll, List.zip_cons_cons, List.zip_nil_right, List.foldl_cons, List.foldl_nil, List.set_cons_succ, List.set_cons_zero]
  refine o_way0 (n := n + 2) vN a o0 (by decide) fun s3 h3 o3 => ?_
  refine o_way1 (n := n + 3) o3 (by decide) fun s4 h4 o4 => ?_
  refine o_way2 (n := n + 3) vN o4 (by decide) fun s5 h5 o5 => ?_
  refine o_way3 (n := n + 2) a o5 (by decide) fun s6 h6 o6 => ?_
  obtain ⟨L, x4, x5, x6, rfl, hl, x, lr⟩ := o6
  have eg := x.st _ _ e dic_np
  refine ret_sat ?_
  rw [v_ite, sat_bind]
  refine eq_sat (v := .bl ((way : Int) == 4)) (h := h6) (by simp) ?_
  simp only [tru_bl]
  cases hb : ((way : Int) == 4) with
  | true =>
    refine (?_ : sat (ev P (Fn P (n + 3)) (.fn "_law_bent" [(.var 0), (.var 1)]) _ h6) _)
    simp only [v_fn, q_evs_var, v_var, q_evs_nil, List.getD_cons_succ, List.getD_cons_zero, rs_of_some, Rs.bind_ok]
    exact sat_mono (s_bent n (a.px x) (pl0.px x) V r40) fun v h' dr => (dr.mono x).le (by decide)
  | false =>
    refine (?_ : sat (ev P (Fn P (n + 3)) (.dic ["moods", "words", "rules"] [(.ix (.var 1) (.con (.str "moods"))), (.ix (.var 1) (.con (.str "words"))), (.var 2)]) _ h6) _)
    refine dic_satM (k := 45) (by decide) (h0 := h) rfl rfl rfl vN ?_
    refine eq_sat (v := .ref A) (h := h6) (by simp [(ix_dic eg).1]) ?_
    refine eq_sat (v := .ref B) (h := h6) (by simp [(ix_dic eg).2.1]) ?_
    refine eq_sat (v := .ref L) (h := h6) (by simp) ?_
    obtain ⟨l, g, r, z⟩ := lr
    exact ⟨A, B, L, rfl, rfl, rfl, x, x.lst eA nop_strs, x.lst eB nop_strs, l, g, r, by omega⟩
end K89
end

section
set_option Elab.async false
set_option linter.all false
set_option maxRecDepth 100000
set_option maxHeartbeats 2000000
namespace K89
open PySem L2 R
def okO (o : OS) : Prop := ∀ s, o = some s → PyData.strOk s = true
def dO : OS → PyData
  | none => .none
  | some s => .str s
theorem dd_vS {h : PH} {o : OS} (k : okO o) : dd h (vS o) = dO o := by
  cases o with
  | none => exact dv_non.2
  | some s => exact (dv_str (k s rfl)).2
theorem eqv_dO (a b : OS) : PyData.eqv (dO a) (dO b) = (a == b) := by
  cases a <;> cases b <;> simp [dO, PyData.eqv]
def okA (a : Str × OS × Bool) : Prop := PyData.strOk a.1 = true ∧ okO a.2.1
theorem dv_ans {h : PH} {a : Str × OS × Bool} (k : okA a) : DV h 2 (ansV a) ∧ dd h (ansV a) = .tuple [.str a.1, dO a.2.1, .bool a.2.2] := by
  have := dv_tup (h := h) (k := 1) (by decide) (l := [.str a.1, vS a.2.1, .bl a.2.2]) fun x hx => by
    simp only [List.mem_cons, List.not_mem_nil, or_false] at hx
    rcases hx with rfl | rfl | rfl
    · exact (dv_str k.1).1
    · exact dv_vS k.2
    · exact (dv_bl _).1
  refine ⟨this.1, ?_⟩
  have e := this.2
  simp only [List.map_cons, List.map_nil, (dv_str (h := h) k.1).2, dd_vS k.2, (dv_bl (h := h) a.2.2).2] at e
  exact e
theorem q_ne_ans {F : FF} {h : PH} {a b : Str × OS × Bool} (ka : okA a) (kb : okA b) : cmpE P F .ne (ansV a) (ansV b) h = .ok (.bl (!(a == b))) h := by
  have d := d_ne (dv_ans (h := h) ka).1 (dv_ans kb).1 rfl
  rw [(dv_ans ka).2, (dv_ans kb).2] at d
  have e : PyData.eqv (.tuple [.str a.1, dO a.2.1, .bool a.2.2]) (.tuple [.str b.1, dO b.2.1, .bool b.2.2]) = (a == b) := by
    obtain ⟨a1, a2, a3⟩ := a
    obtain ⟨b1, b2, b3⟩ := b
    simp only [PyData.eqv, PyData.eqvAll, eqv_dO, Bool.and_true]
    rfl
  rw [e] at d
  exact d
theorem does_ok {T : Tk} (V : ValT T) {c : Case} (hc : c ∈ casesOf T.moods T.words) : okA (does T c) := by
  refine ⟨(V.nm _ (answer_mood V.v hc)).ok, fun s e => ?_⟩
  rw [← ldoes_eq V.v] at e
  unfold ldoes at e
  dsimp only at e
  split at e
  · cases e
  · rcases say_ok V.v c s e with rfl | h
    · exact give_ok
    · exact (V.nw _ h).ok
/-- numbers tell places -/
theorem number_iff {ms ws : List Str} {r1 r2 : List Rule} (V : Val ⟨ms, ws, r1⟩) (V2 : Val ⟨ms, ws, r2⟩) : number ⟨ms, ws, r1⟩ = number ⟨ms, ws, r2⟩ ↔ partsOf ⟨ms, ws, r1⟩ ⟨ms, ws, r2⟩ = [] := by
  unfold partsOf
  rw [List.filter_eq_nil_iff]
  constructor
  · intro h c hc
    have h1 := dig_number V
    have h2 := dig_number V2
    dsimp only at h1 h2
    rw [h] at h1
    rw [h1] at h2
    have := List.map_inj_left.mp h2 c hc
    simp [this]
  · intro h
    unfold number pairs
    congr 1
    refine List.map_congr_left fun c hc => ?_
    have := h c hc
    simp only [Bool.not_eq_true', Bool.not_eq_false, beq_iff_eq, Bool.not_eq_eq_eq_not, Bool.not_true, beq_eq_false_iff_ne, ne_eq, Decidable.not_not] at this
    rw [this]
end K89
end

section
set_option Elab.async false
set_option linter.all false
set_option maxRecDepth 100000
set_option maxHeartbeats 2000000
namespace K89
open PySem L2 R
/-- due: the cases in which two drawn talks are seen to part -/
theorem s_due {n d d2 : Nat} {ms ws : List Str} {r1 r2 : List Rule} {h : PH} {x0 x1 x2 x3 x4 x5 x8 x9 x10 x11 x12 x13 x14 x15 x16 x17 x18 : Option PV} (V : ValT ⟨ms, ws, r1⟩) (V2 : ValT ⟨ms, ws, r2⟩) (pl : PlainAt h d ⟨ms, ws, r1⟩) (pl2 : PlainAt h d2 ⟨ms, ws, r2⟩) :
    sat (ev P (Fn P (n + 2)) (.blt .tuple [(.lcm true (.one 17) [17] (.itE (.fn "_law_cases" [(.var 6)])) (.cmp .ne (.fn "_law_does" [(.var 6), (.var 17)]) (.fn "_law_does" [(.var 7), (.var 17)])) (.emit (.var 17)))]) [x0, x1, x2, x3, x4, x5, some (.ref d), some (.ref d2), x8, x9, x10, x11, x12, x13, x14, x15, x16, x17, x18] h) fun v h' => v = .tup ((partsOf ⟨ms, ws, r1⟩ ⟨ms, ws, r2⟩).map caseV) ∧ Ex h h' := by
  have cle := cases_le V.v.v
  dsimp only at cle
  rw [v_blt, q_evs_lcm, sat_bind, sat_bind]
  simp only [ev, q_evs_var, q_evs_nil, evIt, Rs.bind_ok, sat_bind, sat_noEr, List.getD_cons_succ, List.getD_cons_zero, rs_of_some, sat_ok]
  refine sat_mono (s_lcases (n + 1) pl V.v.v) fun v h4 ⟨x, L, e, g⟩ => ?_
  subst e
  have sr := src_ref g
  simp only [sr, rs_of_some, sat_ok]
  have p4 := pl.px (.of x)
  have p5 := pl2.px (.of x)
  dsimp only at g
  refine cl_all (l := ((casesOf ms ws).map caseV).map .one) (Inv := fun pre acc h' => h' = h4 ∧ ∃ p, pre = (p.map caseV).map .one ∧ acc = (p.filter fun c => !(placeOf ⟨ms, ws, r1⟩ c == placeOf ⟨ms, ws, r2⟩ c)).map caseV) ⟨rfl, [], rfl, rfl⟩ (fun pre acc h' I => by rw [I.1]; exact yields_ref g) ?_ ?_
  · rintro pre y post acc h' hl2 ⟨rfl, p, rfl, rfl⟩
    rw [List.map_map] at hl2
    obtain ⟨pp, c, r, hc, h1, rfl, rfl⟩ := split_map hl2
    rw [List.map_map] at h1
    have := map_inj' (f := Itm.one ∘ caseV) (fun a b => itm_inj) h1
    subst this
    have hmem : c ∈ casesOf ms ws := by rw [hc]; simp
    have q1 : Fn P (n + 2) "_law_does" [.ref d, caseV c] h' = _ := q_does n p4 V.v c
    have q2 : Fn P (n + 2) "_law_does" [.ref d2, caseV c] h' = _ := q_does n p5 V2.v c
    have q3 := q_ne_ans (F := Fn P (n + 2)) (h := h') (does_ok V hmem) (does_ok V2 hmem)
    have pe : (does ⟨ms, ws, r1⟩ c == does ⟨ms, ws, r2⟩ c) = (placeOf ⟨ms, ws, r1⟩ c == placeOf ⟨ms, ws, r2⟩ c) := by
      rw [Bool.eq_iff_iff, beq_iff_eq, beq_iff_eq]
      exact (place_iff V.v V2.v hmem).symm
    rw [pe] at q3
    refine ⟨_, rfl, ?_⟩
    have lz : (p.filter fun c => !(placeOf ⟨ms, ws, r1⟩ c == placeOf ⟨ms, ws, r2⟩ c)).length < sizeL := by
      have h1 := List.length_filter_le (fun c => !(placeOf ⟨ms, ws, r1⟩ c == placeOf ⟨ms, ws, r2⟩ c)) p
      have h2 := congrArg List.length hc
      rw [List.length_append, List.length_cons] at h2
      unfold sizeL; omega
    cases hb : (placeOf ⟨ms, ws, r1⟩ c == placeOf ⟨ms, ws, r2⟩ c) with
    | true =>
      rw [hb] at q3
      simp [wipeS, q1, q2, q3]
      exact ⟨p ++ [c], by simp, by simp [hb]⟩
    | false =>
      rw [hb] at q3
      simp [wipeS, q1, q2, q3, evC, asgV]
      rw [if_pos lz]
      exact ⟨rfl, p ++ [c], by simp, by simp [hb]⟩
  · rintro acc h' ⟨rfl, p, h1, rfl⟩
    rw [List.map_map, List.map_map] at h1
    have := map_inj' (f := Itm.one ∘ caseV) (fun a b => itm_inj) h1
    subst this
    simp [newF]
    exact ⟨rfl, x⟩
end K89
end

section
set_option Elab.async false
set_option linter.all false
set_option maxRecDepth 100000
set_option maxHeartbeats 2000000
namespace K89
open PySem L2 R
def dR (r : Rule) : PyData := .tuple [dO r.st, dO r.mood, .str r.ev, dO r.later, dO r.say, .bool r.hold]
theorem dd_rule {h : PH} {r : Rule} (k : RuleS r) : dd h (ruleV r) = dR r := by
  have := (dv_tup (h := h) (k := 1) (by decide) (l := [vS r.st, vS r.mood, .str r.ev, vS r.later, vS r.say, .bl r.hold]) fun x hx => by
    simp only [List.mem_cons, List.not_mem_nil, or_false] at hx
    rcases hx with rfl | rfl | rfl | rfl | rfl | rfl
    · exact dv_vS k.st
    · exact dv_vS k.mood
    · exact (dv_str k.ev).1
    · exact dv_vS k.later
    · exact dv_vS k.say
    · exact (dv_bl _).1).2
  simp only [List.map_cons, List.map_nil, dd_vS k.st, dd_vS k.mood, (dv_str (h := h) k.ev).2, dd_vS k.later, dd_vS k.say, (dv_bl (h := h) r.hold).2] at this
  exact this
theorem eqv_dR (a b : Rule) : PyData.eqv (dR a) (dR b) = (a == b) := by
  obtain ⟨a1, a2, a3, a4, a5, a6⟩ := a
  obtain ⟨b1, b2, b3, b4, b5, b6⟩ := b
  simp only [dR, PyData.eqv, PyData.eqvAll, eqv_dO, Bool.and_true]
  rw [Bool.eq_iff_iff]
  simp only [Bool.and_eq_true, beq_iff_eq, Rule.mk.injEq]
theorem eqvAll_dR : ∀ a b : List Rule, PyData.eqvAll (a.map dR) (b.map dR) = (a == b)
  | [], [] => rfl
  | [], _ :: _ => rfl
  | _ :: _, [] => rfl
  | x :: a, y :: b => by
    rw [List.map_cons, List.map_cons, PyData.eqvAll, eqv_dR, eqvAll_dR a b]
    rfl
theorem dd_rules {h : PH} {ms ws : List Str} (v : ValN ms ws) {rs : List Rule} (k : ∀ r ∈ rs, RuleOk ms ws r) : dd h (.tup (rs.map ruleV)) = .tuple (rs.map dR) := by
  rw [(dv_tup (by decide) (dv_rules v k)).2, List.map_map]
  congr 1
  exact List.map_congr_left fun r hr => dd_rule ((k r hr).s v)
/-- __eq__ of two talks of the same moods and words -/
theorem q_talk_eq2 (n : Nat) {ms ws : List Str} {r1 r2 : List Rule} {t u : Nat} {h : PH} (V : ValT ⟨ms, ws, r1⟩) (V2 : ValT ⟨ms, ws, r2⟩) (a : TalkAt h t ⟨ms, ws, r1⟩) (b : TalkAt h u ⟨ms, ws, r2⟩) : Fn P (n + 1) "Talk.__eq__" [.ref t, .ref u] h = .ok (.bl (r1 == r2)) h := by
  rw [fn_eq e_eq rfl]
  have dm := dv_tup (h := h) (k := 1) (by decide) (dv_strs fun s hs => (V.nm s hs).ok)
  have dw := dv_tup (h := h) (k := 1) (by decide) (dv_strs fun s hs => (V.nw s hs).ok)
  have dr1 : DV h 3 (.tup (r1.map ruleV)) := (dv_tup (by decide) (dv_rules V.n V.v.ok)).1
  have dr2 : DV h 3 (.tup (r2.map ruleV)) := (dv_tup (by decide) (dv_rules V2.n V2.v.ok)).1
  have mk : ∀ x : PV, DV h 3 x → DV h 4 (.tup [.tup (ms.map .str), .tup (ws.map .str), x]) ∧ dd h (.tup [.tup (ms.map .str), .tup (ws.map .str), x]) = .tuple ([.tup (ms.map .str), .tup (ws.map .str), x].map (dd h)) := fun x d => dv_tup (k := 3) (by decide) fun y hy => by
    simp only [List.mem_cons, List.not_mem_nil, or_false] at hy
    rcases hy with rfl | rfl | rfl
    · exact dm.1.mono (by decide) (by decide)
    · exact dw.1.mono (by decide) (by decide)
    · exact d
  have d1 := mk _ dr1
  have d2 := mk _ dr2
  have e := d_eq d1.1 d2.1 rfl
  rw [d1.2, d2.2] at e
  have em := SeqAt.eqv_refl _ dm.1.c
  have ew := SeqAt.eqv_refl _ dw.1.c
  have er : PyData.eqv (dd h (.tup (r1.map ruleV))) (dd h (.tup (r2.map ruleV))) = (r1 == r2) := by
    rw [dd_rules V.n V.v.ok, dd_rules V2.n V2.v.ok, PyData.eqv, eqvAll_dR]
  simp only [List.map_cons, List.map_nil] at e
  rw [PyData.eqv, PyData.eqvAll, PyData.eqvAll, PyData.eqvAll, PyData.eqvAll, em, ew, er] at e
  simp only [Bool.true_and, Bool.and_true] at e
  have q : cmpE P (Fn P n) .eq (.tup [.tup (ms.map .str), .tup (ws.map .str), .tup (r1.map ruleV)]) (.tup [.tup (ms.map .str), .tup (ws.map .str), .tup (r2.map ruleV)]) h = .ok (.bl (r1 == r2)) h := by
    simp only [cmpE, methOf_tup]
    exact e
  have a1 : lookF P h (.ref t) "moods" = some (.tup (ms.map .str)) := a.moods
  have a2 : lookF P h (.ref t) "words" = some (.tup (ws.map .str)) := a.words
  have a3 : lookF P h (.ref t) "rules" = some (.tup (r1.map ruleV)) := a.rules
  have b1 : lookF P h (.ref u) "moods" = some (.tup (ms.map .str)) := b.moods
  have b2 : lookF P h (.ref u) "words" = some (.tup (ws.map .str)) := b.words
  have b3 : lookF P h (.ref u) "rules" = some (.tup (r2.map ruleV)) := b.rules
  simp [d_Talk___eq__, R.run, exs, ex, tst, b.isi, a1, a2, a3, b1, b2, b3, q, doBlt, on1, bBool]
end K89
end

section
set_option Elab.async false
set_option linter.all false
set_option maxRecDepth 100000
set_option maxHeartbeats 2000000
namespace K89
open PySem L2 R
/-- repr of plain data -/
theorem q_repr {h : PH} {k : Nat} {v : PV} (dv : DV h k v) (sh : (dd h v).showable = true) (l : (dd h v).shown.length ≤ sizeL) (nf : (∃ xs, v = .fro xs) ∨ (∃ xs, v = .tup xs) ∨ ∃ n, v = .ref n) : doBlt .repr [v] h = .ok (.str (dd h v).shown) h := by
  have e := dv.e 60 dv.le (Nat.le_refl _)
  have hd : (dd h v).hasDict = false := PyData.hasDict_of_canLay _ dv.c
  rcases nf with ⟨xs, rfl⟩ | ⟨xs, rfl⟩ | ⟨n, rfl⟩ <;> simp only [doBlt, on1, bRepr, e, dv.sh, sh, hd] <;> rw [if_pos (by simpa using l)]
end K89
end

section
set_option Elab.async false
set_option linter.all false
set_option maxRecDepth 100000
set_option maxHeartbeats 2000000
namespace K89
open PySem L2 R
def dC (c : Case) : PyData := .tuple [.str c.1, .str c.2.1, .str c.2.2]
def shortS (s : Str) : Prop := PyData.strOk s = true ∧ s.length ≤ 8
theorem dv_case {h : PH} {c : Case} (k : shortS c.1 ∧ shortS c.2.1 ∧ shortS c.2.2) : DV h 2 (caseV c) ∧ dd h (caseV c) = dC c := by
  have := dv_tup (h := h) (k := 1) (by decide) (l := [.str c.1, .str c.2.1, .str c.2.2]) fun x hx => by
    simp only [List.mem_cons, List.not_mem_nil, or_false] at hx
    rcases hx with rfl | rfl | rfl
    · exact (dv_str k.1.1).1
    · exact (dv_str k.2.1.1).1
    · exact (dv_str k.2.2.1).1
  refine ⟨this.1, ?_⟩
  have e := this.2
  simp only [List.map_cons, List.map_nil, (dv_str (h := h) k.1.1).2, (dv_str (h := h) k.2.1.1).2, (dv_str (h := h) k.2.2.1).2] at e
  exact e
theorem bulk_cases : ∀ {cs : List Case}, (∀ c ∈ cs, shortS c.1 ∧ shortS c.2.1 ∧ shortS c.2.2) → PyData.bulkAll (cs.map dC) ≤ 28 * cs.length
  | [], _ => Nat.le_refl _
  | c :: cs, h => by
    have ih := bulk_cases fun x hx => h x (List.mem_cons_of_mem _ hx)
    obtain ⟨⟨_, h1⟩, ⟨_, h2⟩, ⟨_, h3⟩⟩ := h c List.mem_cons_self
    simp only [List.map_cons, PyData.bulkAll, List.length_cons, dC, PyData.bulk]
    unfold Str.length at h1 h2 h3
    omega
theorem case_short {ms ws : List Str} (v : ValN ms ws) {c : Case} (hc : c ∈ casesOf ms ws) : shortS c.1 ∧ shortS c.2.1 ∧ shortS c.2.2 := by
  obtain ⟨h1, h2, h3⟩ := mem_cases.mp hc
  refine ⟨⟨statuses_ok _ h1, ?_⟩, ⟨(v.nm _ h2).ok, (v.nm _ h2).l8⟩, ?_⟩
  · have : ∀ s ∈ statuses, s.length ≤ 8 := by decide +kernel
    exact this _ h1
  · simp only [evs, List.mem_cons] at h3
    rcases h3 with e | e | e
    · rw [e]; exact ⟨beat_ok, by decide +kernel⟩
    · rw [e]; exact ⟨give_ok, by decide +kernel⟩
    · exact ⟨(v.nw _ e).ok, (v.nw _ e).l8⟩
theorem ok_small {s : Str} (k : PyData.strOk s = true) : (s.cps.toList.all fun c => decide (c < 16 ^ 8)) = true := by
  unfold PyData.strOk at k
  rw [Array.all_eq_true'] at k
  rw [List.all_eq_true]
  intro c hc
  have := k c (by simpa using hc)
  simp only [decide_eq_true_eq] at this ⊢
  omega
theorem leaves_cases : ∀ {cs : List Case}, (∀ c ∈ cs, shortS c.1 ∧ shortS c.2.1 ∧ shortS c.2.2) → PyData.leavesShortAll 8 (cs.map dC) = true ∧ PyData.showableAll (cs.map dC) = true
  | [], _ => ⟨rfl, rfl⟩
  | c :: cs, h => by
    have ih := leaves_cases fun x hx => h x (List.mem_cons_of_mem _ hx)
    obtain ⟨⟨h1, _⟩, ⟨h2, _⟩, ⟨h3, _⟩⟩ := h c List.mem_cons_self
    refine ⟨?_, ?_⟩
    · simp only [List.map_cons, PyData.leavesShortAll, dC, PyData.leavesShort, ok_small h1, ok_small h2, ok_small h3, ih.1, Bool.and_self]
    · simp only [List.map_cons, PyData.showableAll, dC, PyData.showable, ih.2, Bool.and_self]
/-- repr([due, due]) -/
theorem q_repr_due {ms ws : List Str} (v : ValN ms ws) {cs : List Case} (hc : ∀ c ∈ cs, c ∈ casesOf ms ws) (hl : cs.length ≤ 90) (h : PH) : doBlt .repr [.fro [.tup (cs.map caseV), .tup (cs.map caseV)]] h = .ok (.str (PyData.list [.tuple (cs.map dC), .tuple (cs.map dC)]).shown) h := by
  have k : ∀ c ∈ cs, shortS c.1 ∧ shortS c.2.1 ∧ shortS c.2.2 := fun c h => case_short v (hc c h)
  have d1 := dv_tup (h := h) (k := 2) (by decide) (l := cs.map caseV) fun x hx => by
    obtain ⟨c, hc, rfl⟩ := List.mem_map.mp hx
    exact (dv_case (k c hc)).1
  have e1 : dd h (.tup (cs.map caseV)) = .tuple (cs.map dC) := by
    rw [d1.2, List.map_map]
    have e : cs.map (dd h ∘ caseV) = cs.map dC := List.map_congr_left fun c hc => (dv_case (k c hc)).2
    rw [e]
  have d2 := dv_fro (h := h) (k := 3) (by decide) (l := [.tup (cs.map caseV), .tup (cs.map caseV)]) fun x hx => by
    simp only [List.mem_cons, List.not_mem_nil, or_false, or_self] at hx
    rw [hx]
    exact d1.1
  have e2 := d2.2
  simp only [List.map_cons, List.map_nil, e1] at e2
  obtain ⟨lv, sw⟩ := leaves_cases k
  have bk := bulk_cases k
  have q := q_repr d2.1 ?_ ?_ (.inl ⟨_, rfl⟩)
  · rw [e2] at q
    exact q
  · rw [e2]
    simp only [PyData.showable, PyData.showableAll, sw, Bool.and_self]
  · have le := PyData.shown_le_bulk 8 (by decide) (.list [.tuple (cs.map dC), .tuple (cs.map dC)]) (by simp only [PyData.leavesShort, PyData.leavesShortAll, lv, Bool.and_self])
    rw [e2]
    refine Nat.le_trans le ?_
    simp only [PyData.bulk, PyData.bulkAll]
    unfold sizeL
    omega
end K89
end

section
set_option Elab.async false
set_option linter.all false
set_option maxRecDepth 100000
set_option maxHeartbeats 2000000
namespace K89
open PySem L2 R
theorem dv_bls (b : Bool) (h : PH) : ∀ x ∈ [PV.bl b, .bl b], DV h 1 x := fun x hx => by
  simp only [List.mem_cons, List.not_mem_nil, or_false, or_self] at hx
  rw [hx]
  exact (dv_bl b).1
theorem bls_len (b : Bool) : (PyData.list [.bool b, .bool b]).shown.length ≤ sizeL := by
  have le := PyData.shown_le_bulk 8 (by decide) (.list [.bool b, .bool b]) (by simp [PyData.leavesShort, PyData.leavesShortAll])
  refine Nat.le_trans le ?_
  simp only [PyData.bulk, PyData.bulkAll]
  unfold sizeL
  omega
theorem q_repr_bf (b : Bool) (h : PH) : doBlt .repr [.fro [.bl b, .bl b]] h = .ok (.str (PyData.list [.bool b, .bool b]).shown) h := by
  have d := dv_fro (h := h) (k := 1) (by decide) (dv_bls b h)
  have e := d.2
  simp only [List.map_cons, List.map_nil, (dv_bl (h := h) b).2] at e
  have q := q_repr d.1 (by rw [e]; simp [PyData.showable, PyData.showableAll]) (by rw [e]; exact bls_len b) (.inl ⟨_, rfl⟩)
  rw [e] at q
  exact q
theorem q_repr_br (b : Bool) {h : PH} {n : Nat} (hn : h[n]? = some (.lst [.bl b, .bl b])) : doBlt .repr [.ref n] h = .ok (.str (PyData.list [.bool b, .bool b]).shown) h := by
  have d := dv_ref (h := h) (k := 1) (by decide) hn (dv_bls b h)
  have e := d.2
  simp only [List.map_cons, List.map_nil, (dv_bl (h := h) b).2] at e
  have q := q_repr d.1 (by rw [e]; simp [PyData.showable, PyData.showableAll]) (by rw [e]; exact bls_len b) (.inr (.inr ⟨_, rfl⟩))
  rw [e] at q
  exact q
/-- a tuple of cases, == () -/
theorem q_eq_unit {F : FF} {h : PH} {ms ws : List Str} (v : ValN ms ws) {cs : List Case} (hc : ∀ c ∈ cs, c ∈ casesOf ms ws) : cmpE P F .eq (.tup (cs.map caseV)) (.tup []) h = .ok (.bl cs.isEmpty) h := by
  have d1 := dv_tup (h := h) (k := 2) (by decide) (l := cs.map caseV) fun x hx => by
    obtain ⟨c, h2, rfl⟩ := List.mem_map.mp hx
    exact (dv_case (case_short v (hc c h2))).1
  have d0 := dv_tup (h := h) (k := 0) (by decide) (l := []) fun x hx => absurd hx List.not_mem_nil
  have e := d_eq d1.1 d0.1 rfl
  rw [d1.2, d0.2] at e
  simp only [cmpE, methOf_tup, e]
  cases cs <;> simp [PyData.eqv, PyData.eqvAll]
end K89
end

section
set_option Elab.async false
set_option linter.all false
set_option maxRecDepth 100000
set_option maxHeartbeats 2000000
namespace K89
open PySem L2 R
theorem q_cmp_talks (n : Nat) {ms ws : List Str} {r1 r2 : List Rule} {t u : Nat} {h : PH} (V : ValT ⟨ms, ws, r1⟩) (V2 : ValT ⟨ms, ws, r2⟩) (a : TalkAt h t ⟨ms, ws, r1⟩) (b : TalkAt h u ⟨ms, ws, r2⟩) :
    cmpE P (Fn P (n + 1)) .eq (.ref t) (.ref u) h = .ok (.bl (r1 == r2)) h ∧ cmpE P (Fn P (n + 1)) .ne (.ref t) (.ref u) h = .ok (.bl (!(r1 == r2))) h := by
  have q : Fn P (n + 1) "Talk.__eq__" [.ref t, .ref u] h = _ := q_talk_eq2 n V V2 a b
  have k : kin h (.ref t) (.ref u) = true := by simp [kin, clsOf_talk a, clsOf_talk b]
  have me : methOf P h (.ref t) strEqS = some ("Talk.__eq__" : Str) := a.m_eq
  constructor
  · simp only [cmpE, me, k, if_true, q]
    rfl
  · simp only [cmpE, me, k, if_true, q]
    rfl
theorem plain_inj {ms ws : List Str} (v : ValM ms ws) {i j : Nat} (hi : i < many ms ws) (hj : j < many ms ws) : (plainRules ms ws i == plainRules ms ws j) = (i == j) := by
  rw [Bool.eq_iff_iff, beq_iff_eq, beq_iff_eq]
  constructor
  · intro e
    have h1 := number_plain v hi
    have h2 := number_plain v hj
    have e2 : plainTk ms ws i = plainTk ms ws j := by
      unfold plainTk
      rw [e]
    rw [e2] at h1
    omega
  · rintro rfl
    rfl
end K89
end

section
set_option Elab.async false
set_option linter.all false
set_option maxRecDepth 100000
set_option maxHeartbeats 4000000
namespace K89
open PySem L2 R
theorem or_f {F : FF} {a b : E} {sl : Sl} {h : PH} {Q : PV → PH → Prop} (s : sat (ev P F a sl h) fun x h' => x = .bl false ∧ sat (ev P F b sl h') Q) : sat (ev P F (.or a b) sl h) Q := by
  rw [v_or, sat_bind]
  refine sat_mono s fun x h' ⟨e, q⟩ => ?_
  subst e
  exact q
/-- two calls that come to one value, under repr, against a text -/
theorem s_pair {F : FF} {a b c : E} {sl : Sl} {h : PH} {w : PV} {s : Str} {Q : PV → PH → Prop} (na : isSt a = false) (nb : isSt b = false) (nc : isSt c = false) (ha : ∀ g, Ex h g → sat (ev P F a sl g) fun v g' => v = w ∧ Ex g g') (hb : ∀ g, Ex h g → sat (ev P F b sl g) fun v g' => v = w ∧ Ex g g')
    (rp : ∀ g, doBlt .repr [.fro [w, w]] g = .ok (.str s) g) (hc : ∀ g, Ex h g → sat (ev P F (.blt .repr [c]) sl g) fun v g' => v = .str s ∧ Ex g g') (q : ∀ g, Ex h g → Q (.bl false) g) : sat (ev P F (.cmp .ne (.blt .repr [.lst true [a, b]]) (.blt .repr [c])) sl h) Q := by
  rw [v_cmp, sat_bind, v_blt, sat_bind, evs_cons rfl, sat_bind, v_lst, sat_bind, evs_cons na, sat_bind]
  refine sat_mono (ha h (Ex.refl h)) fun v g ⟨e, x⟩ => ?_
  subst e
  rw [evs_cons nb, sat_bind, sat_bind]
  refine sat_mono (hb g x) fun v g2 ⟨e, x2⟩ => ?_
  subst e
  simp only [q_evs_nil, Rs.bind_ok, sat_ok, List.length_cons, List.length_nil, Nat.reduceAdd, sz_lit (show 2 ≤ 100 by decide), if_true, newF, rp]
  rw [sat_bind]
  refine sat_mono (hc g2 (x.trans x2)) fun v g3 ⟨e, x3⟩ => ?_
  subst e
  simp only [q_ne_str, beq_self_eq_true, Bool.not_true, sat_ok]
  exact q g3 ((x.trans x2).trans x3)
end K89
end

section
set_option Elab.async false
set_option linter.all false
set_option maxRecDepth 100000
set_option maxHeartbeats 4000000
namespace K89
open PySem L2 R
theorem parts_mem (T U : Tk) : ∀ c ∈ partsOf T U, c ∈ casesOf T.moods T.words := fun c hc => (List.mem_filter.mp hc).1
theorem parts_len {T U : Tk} (v : ValM T.moods T.words) : (partsOf T U).length ≤ 90 := Nat.le_trans (List.length_filter_le _ _) (cases_le v)
theorem parts_isEmpty {ms ws : List Str} {r1 r2 : List Rule} (V : Val ⟨ms, ws, r1⟩) (V2 : Val ⟨ms, ws, r2⟩) : (partsOf ⟨ms, ws, r1⟩ ⟨ms, ws, r2⟩).isEmpty = (number ⟨ms, ws, r1⟩ == number ⟨ms, ws, r2⟩) := by
  rw [Bool.eq_iff_iff, List.isEmpty_iff, beq_iff_eq]
  exact (number_iff V V2).symm
end K89
end

section
set_option Elab.async false
set_option linter.all false
set_option maxRecDepth 100000
set_option maxHeartbeats 4000000
namespace K89
open PySem L2 R
theorem ev_call2 {F : FF} {f : Str} {i j : Nat} {x y : PV} {sl : Sl} {h : PH} {Q : PV → PH → Prop} (hi : sl.getD i none = some x) (hj : sl.getD j none = some y) (s : sat (F f [x, y] h) Q) : sat (ev P F (.fn f [.var i, .var j]) sl h) Q := by
  simp only [v_fn, q_evs_var, q_evs_nil, v_var, hi, hj, rs_of_some, Rs.bind_ok]
  exact s
theorem ev_callK {F : FF} {f : Str} {i j : Nat} {x y : PV} {sl : Sl} {h : PH} {Q : PV → PH → Prop} (hi : sl.getD i none = some x) (hj : sl.getD j none = some y) (s : sat (F f [y, x] h) Q) : sat (ev P F (.fnK f [1, 0] 2 [.var i, .var j]) sl h) Q := by
  simp only [v_fnK, q_evs_var, q_evs_nil, v_var, hi, hj, rs_of_some, Rs.bind_ok, List.length_cons, List.length_nil, Nat.reduceAdd, if_true, List.map_cons, List.map_nil, List.getD_cons_succ, List.getD_cons_zero]
  exact s
theorem ev_call1 {F : FF} {f : Str} {i : Nat} {x : PV} {sl : Sl} {h : PH} {Q : PV → PH → Prop} (hi : sl.getD i none = some x) (s : sat (F f [x] h) Q) : sat (ev P F (.fn f [.var i]) sl h) Q := by
  simp only [v_fn, q_evs_var, q_evs_nil, v_var, hi, rs_of_some, Rs.bind_ok]
  exact s
/-- repr([due == ()] * 2) -/
theorem s_mul2 {F : FF} {sl : Sl} {h : PH} {ms ws : List Str} (v : ValN ms ws) {cs : List Case} (hc : ∀ c ∈ cs, c ∈ casesOf ms ws) (h8 : sl.getD 8 none = some (.tup (cs.map caseV))) :
    sat (ev P F (.blt .repr [(.bin .mul (.lst false [(.cmp .eq (.var 8) (.tup []))]) (.con (.int 2)))]) sl h) fun w g => w = .str (PyData.list [.bool cs.isEmpty, .bool cs.isEmpty]).shown ∧ Ex h g := by
  rw [v_blt, sat_bind, evs_cons rfl, sat_bind, v_bin, sat_bind, v_lst, sat_bind, evs_cons rfl, sat_bind, v_cmp, sat_bind]
  refine eq_sat (v := .tup (cs.map caseV)) (h := h) (by simp only [v_var, h8, rs_of_some]) ?_
  rw [sat_bind]
  refine eq_sat (v := .tup []) (h := h) (by simp) ?_
  rw [q_eq_unit v hc]
  simp only [q_evs_nil, Rs.bind_ok, sat_ok, List.length_cons, List.length_nil, Nat.reduceAdd, sz_lit (show 1 ≤ 100 by decide), if_true, newF, Bool.false_eq_true, if_false, newO_eq, v_con, sat_bind]
  have y1 := Ex.app h [PO.lst [.bl cs.isEmpty]]
  have g1 := get_new h (.lst [.bl cs.isEmpty])
  generalize h ++ [PO.lst [.bl cs.isEmpty]] = h1 at *
  refine eq_sat (v := .ref h1.length) (h := h1 ++ [.lst [.bl cs.isEmpty, .bl cs.isEmpty]]) ?_ ?_
  · simp only [doBin, g1]
    rw [if_pos ⟨by decide, by decide, by show 1 * 2 ≤ sizeL; decide⟩]
    rfl
  · rw [q_repr_br cs.isEmpty (get_new h1 _)]
    exact ⟨rfl, y1.trans (Ex.app _ _)⟩
section
variable {ms ws : List Str} {r1 r2 : List Rule} {t u : Nat} {h : PH} {sl : Sl}
theorem s_cond1 (V : ValT ⟨ms, ws, r1⟩) (V2 : ValT ⟨ms, ws, r2⟩) (a : TalkAt h t ⟨ms, ws, r1⟩) (b : TalkAt h u ⟨ms, ws, r2⟩) (h14 : sl.getD 14 none = some (.ref t)) (h15 : sl.getD 15 none = some (.ref u)) (h8 : sl.getD 8 none = some (.tup ((partsOf ⟨ms, ws, r1⟩ ⟨ms, ws, r2⟩).map caseV))) :
    sat (ev P (Fn P 19) (.or (.cmp .ne (.blt .repr [(.lst true [(.fn "apart" [(.var 14), (.var 15)]), (.fnK "apart" [1, 0] 2 [(.var 15), (.var 14)])])]) (.blt .repr [(.lst true [(.var 8), (.var 8)])])) (.cmp .ne (.blt .repr [(.lst true [(.fn "are_alike" [(.var 14), (.var 15)]), (.fnK "are_alike" [1, 0] 2 [(.var 14), (.var 15)])])]) (.blt .repr [(.bin .mul (.lst false [(.cmp .eq (.var 8) (.tup []))]) (.con (.int 2)))]))) sl h)
      fun v h' => v = .bl false ∧ Ex h h' := by
  have pm := parts_mem ⟨ms, ws, r1⟩ ⟨ms, ws, r2⟩
  have pl := parts_len (T := ⟨ms, ws, r1⟩) (U := ⟨ms, ws, r2⟩) V.v.v
  have pe := parts_isEmpty V.v V2.v
  refine or_f ?_
  refine s_pair rfl rfl rfl (fun g y => ?_) (fun g y => ?_) (fun g => q_repr_due V.n pm pl g) (fun g y => ?_) fun g y => ⟨rfl, ?_⟩
  · exact ev_call2 h14 h15 (s_apart 14 V V2 (a.ex y) (b.ex y))
  · exact ev_callK h15 h14 (s_apart 14 V V2 (a.ex y) (b.ex y))
  · refine eq_sat (v := .str (PyData.list [.tuple ((partsOf ⟨ms, ws, r1⟩ ⟨ms, ws, r2⟩).map dC), .tuple ((partsOf ⟨ms, ws, r1⟩ ⟨ms, ws, r2⟩).map dC)]).shown) (h := g) ?_ ⟨rfl, Ex.refl g⟩
    have q := q_repr_due V.n pm pl g
    simp only [v_blt, q_evs_lst, v_lst, q_evs_var, q_evs_nil, v_var, h8, rs_of_some, Rs.bind_ok, List.length_cons, List.length_nil, Nat.reduceAdd, sz_lit (show 2 ≤ 100 by decide), if_true, newF, q]
  · refine s_pair (w := .bl (number ⟨ms, ws, r1⟩ == number ⟨ms, ws, r2⟩)) rfl rfl rfl (fun g2 y2 => ?_) (fun g2 y2 => ?_) (fun g => q_repr_bf _ g) (fun g2 y2 => ?_) fun g2 y2 => ⟨rfl, y.trans y2⟩
    · exact ev_call2 h14 h15 (s_are_alike 14 V V2 (a.ex (y.trans y2)) (b.ex (y.trans y2)))
    · refine ev_callK h14 h15 (sat_mono (s_are_alike 14 V2 V (b.ex (y.trans y2)) (a.ex (y.trans y2))) fun v g3 ⟨e, x⟩ => ⟨?_, x⟩)
      rw [e, Bool.beq_comm]
    · have := s_mul2 (F := Fn P 19) (h := g2) V.n pm h8
      rw [pe] at this
      exact this
end
end K89
end

section
set_option Elab.async false
set_option linter.all false
set_option maxRecDepth 100000
set_option maxHeartbeats 4000000
namespace K89
open PySem L2 R
theorem q_ne_bl {F : FF} {h : PH} (a b : Bool) : cmpE P F .ne (.bl a) (.bl b) h = .ok (.bl (!(a == b))) h := by simp [cmpE, methOf, doCmp, scalP, eqP]
theorem q_eq_bl {F : FF} {h : PH} (a b : Bool) : cmpE P F .eq (.bl a) (.bl b) h = .ok (.bl (a == b)) h := by simp [cmpE, methOf, doCmp, scalP, eqP]
theorem ce_nat (x y : Nat) : ((x : Int) == (y : Int)) = (x == y) := by
  rw [Bool.eq_iff_iff, beq_iff_eq, beq_iff_eq]
  omega
section
variable {ms ws : List Str} {r1 r2 : List Rule} {t u w : Nat} {h : PH} {sl : Sl}
theorem or_l {F : FF} {a b : E} {sl : Sl} {h : PH} (s : sat (ev P F a sl h) fun x h' => x = .bl false ∧ Ex h h') (s2 : ∀ g, Ex h g → sat (ev P F b sl g) fun x h' => x = .bl false ∧ Ex g h') : sat (ev P F (.or a b) sl h) fun x h' => x = .bl false ∧ Ex h h' :=
  or_f (sat_mono s fun v g ⟨e, y⟩ => ⟨e, sat_mono (s2 g y) fun v' g' ⟨e', y'⟩ => ⟨e', y.trans y'⟩⟩)
/-- two values computed, compared -/
theorem cmp_l {F : FF} {o : Cp} {a b : E} {sl : Sl} {h : PH} {k : Bool} {A B : PV → PH → Prop} (ha : sat (ev P F a sl h) fun x g => A x g ∧ Ex h g) (mono : ∀ x g g', A x g → Ex g g' → A x g') (hb : ∀ g, Ex h g → sat (ev P F b sl g) fun x g' => B x g' ∧ Ex g g') (q : ∀ x y g, A x g → B y g → cmpE P F o x y g = .ok (.bl k) g) : sat (ev P F (.cmp o a b) sl h) fun x g => x = .bl k ∧ Ex h g := by
  rw [v_cmp, sat_bind]
  refine sat_mono ha fun x g ⟨ax, y⟩ => ?_
  rw [sat_bind]
  refine sat_mono (hb g y) fun z g2 ⟨bz, y2⟩ => ?_
  rw [q x z g2 (mono x g g2 ax y2) bz]
  exact ⟨rfl, y.trans y2⟩
theorem s_isdue {F : FF} {cs : List Case} (v : ValN ms ws) (hc : ∀ c ∈ cs, c ∈ casesOf ms ws) (h8 : sl.getD 8 none = some (.tup (cs.map caseV))) : sat (ev P F (.cmp .eq (.var 8) (.tup [])) sl h) fun x g => x = .bl cs.isEmpty ∧ Ex h g := by
  refine cmp_l (A := fun x _ => x = .tup (cs.map caseV)) (B := fun x _ => x = .tup []) (eq_sat (v := .tup (cs.map caseV)) (h := h) (by simp only [v_var, h8, rs_of_some]) ⟨rfl, Ex.refl h⟩) (fun _ _ _ e _ => e) (fun g y => eq_sat (v := .tup []) (h := g) (by simp) ⟨rfl, Ex.refl g⟩) fun x y g e1 e2 => ?_
  subst e1 e2
  exact q_eq_unit v hc
theorem s_cond2 (V : ValT ⟨ms, ws, r1⟩) (V2 : ValT ⟨ms, ws, r2⟩) (a : TalkAt h t ⟨ms, ws, r1⟩) (b : TalkAt h u ⟨ms, ws, r2⟩) (c : TalkAt h w (plainTk ms ws (number ⟨ms, ws, r1⟩))) (h14 : sl.getD 14 none = some (.ref t)) (h15 : sl.getD 15 none = some (.ref u)) (h9 : sl.getD 9 none = some (.ref w)) (h8 : sl.getD 8 none = some (.tup ((partsOf ⟨ms, ws, r1⟩ ⟨ms, ws, r2⟩).map caseV))) :
    sat (ev P (Fn P 19) (.or (.not (.fn "are_alike" [(.var 9), (.var 14)])) (.or (.cmp .ne (.var 9) (.fn "plain_talk" [(.var 9)])) (.or (.cmp .ne (.fn "apart" [(.var 9), (.var 14)]) (.tup [])) (.or (.cmp .ne (.cmp .eq (.fn "talk_number" [(.var 14)]) (.fn "talk_number" [(.var 15)])) (.cmp .eq (.var 8) (.tup []))) (.cmp .ne (.cmp .eq (.var 9) (.fn "plain_talk" [(.var 15)])) (.cmp .eq (.var 8) (.tup []))))))) sl h)
      fun v h' => v = .bl false ∧ Ex h h' := by
  have pm := parts_mem ⟨ms, ws, r1⟩ ⟨ms, ws, r2⟩
  have pe := parts_isEmpty V.v V2.v
  have n1 := number_lt V.v
  have n2 := number_lt V2.v
  dsimp only at n1 n2
  have np := number_plain V.v.v n1
  dsimp only at np
  generalize hN : number ⟨ms, ws, r1⟩ = N at *
  generalize hM : number ⟨ms, ws, r2⟩ = M at *
  have Vp : ValT ⟨ms, ws, plainRules ms ws N⟩ := V.n.plain N
  have Vq : ValT ⟨ms, ws, plainRules ms ws M⟩ := V.n.plain M
  have np' : number ⟨ms, ws, plainRules ms ws N⟩ = N := np
  have p0 : partsOf ⟨ms, ws, plainRules ms ws N⟩ ⟨ms, ws, r1⟩ = [] := (number_iff Vp.v V.v).mp (by rw [np', hN])
  refine or_l ?_ fun g y => or_l ?_ fun g2 y2 => or_l ?_ fun g3 y3 => or_l ?_ fun g4 y4 => ?_
  · rw [v_not, sat_bind]
    refine ev_call2 h9 h14 (sat_mono (s_are_alike 14 Vp V c a) fun v g ⟨e, x⟩ => ?_)
    subst e
    rw [np', hN]
    simp only [beq_self_eq_true, tru_bl, Bool.not_true, sat_ok]
    exact ⟨trivial, x⟩
  · refine cmp_l (A := fun x g => x = .ref w ∧ TalkAt g w (plainTk ms ws N)) (B := fun x g => ∃ t', x = .ref t' ∧ TalkAt g t' (plainTk ms ws N)) (eq_sat (v := .ref w) (h := g) (by simp only [v_var, h9, rs_of_some]) ⟨⟨rfl, c.ex y⟩, Ex.refl g⟩) (fun x g g' ⟨e, k⟩ y => ⟨e, k.ex y⟩) (fun g' y' => ev_call1 h9 (sat_mono (s_plain_talk 13 Vp (c.ex (y.trans y'))) fun v g2 ⟨t', e, k, x⟩ => ⟨⟨t', e, ?_⟩, x⟩)) fun x z g' ⟨e, k⟩ ⟨t', e', k'⟩ => ?_
    · rw [np'] at k
      exact k
    · subst e e'
      have := (q_cmp_talks 18 Vp Vp k k').2
      rw [beq_self_eq_true] at this
      exact this
  · refine cmp_l (A := fun x g => x = .tup []) (B := fun x g => x = .tup []) (ev_call2 h9 h14 (sat_mono (s_apart 14 Vp V (c.ex (y.trans y2)) (a.ex (y.trans y2))) fun v g ⟨e, x⟩ => ⟨?_, x⟩)) (fun _ _ _ e _ => e) (fun g y => eq_sat (v := .tup []) (h := g) (by simp) ⟨rfl, Ex.refl g⟩) fun x z g e1 e2 => ?_
    · rw [e, p0]
      rfl
    · subst e1 e2
      have d0 := dv_tup (h := g) (k := 0) (by decide) (l := []) fun x hx => absurd hx List.not_mem_nil
      exact q_neT d0.1 d0.1 rfl
  · have y' := (y.trans y2).trans y3
    refine cmp_l (A := fun x g => x = .bl (N == M)) (B := fun x g => x = .bl (N == M)) ?_ (fun _ _ _ e _ => e) (fun g y => ?_) fun x z g e1 e2 => ?_
    · refine cmp_l (A := fun x g => x = .int (N : Nat)) (B := fun x g => x = .int (M : Nat)) (ev_call1 h14 (eq_sat (q_talk_number 14 (a.ex y') V.v) ⟨by rw [hN], Ex.app _ _⟩)) (fun _ _ _ e _ => e) (fun g y => ev_call1 h15 (eq_sat (q_talk_number 14 (b.ex (y'.trans y)) V2.v) ⟨by rw [hM], Ex.app _ _⟩)) fun x z g e1 e2 => ?_
      subst e1 e2
      rw [q_eq_int, ce_nat]
    · have := s_isdue (F := Fn P 19) (h := g) V.n pm h8
      rw [pe] at this
      exact this
    · subst e1 e2
      rw [q_ne_bl, beq_self_eq_true]
      rfl
  · have y' := ((y.trans y2).trans y3).trans y4
    refine cmp_l (A := fun x g => x = .bl (N == M)) (B := fun x g => x = .bl (N == M)) ?_ (fun _ _ _ e _ => e) (fun g y => ?_) fun x z g e1 e2 => ?_
    · refine cmp_l (A := fun x g => x = .ref w ∧ TalkAt g w (plainTk ms ws N)) (B := fun x g => ∃ t', x = .ref t' ∧ TalkAt g t' (plainTk ms ws M)) (eq_sat (v := .ref w) (h := g4) (by simp only [v_var, h9, rs_of_some]) ⟨⟨rfl, c.ex y'⟩, Ex.refl _⟩) (fun x g g' ⟨e, k⟩ y => ⟨e, k.ex y⟩) (fun g' y2' => ev_call1 h15 (sat_mono (s_plain_talk 13 V2 (b.ex (y'.trans y2'))) fun v g2 ⟨t', e, k, x⟩ => ⟨⟨t', e, ?_⟩, x⟩)) fun x z g' ⟨e, k⟩ ⟨t', e', k'⟩ => ?_
      · dsimp only at k
        rw [hM] at k
        exact k
      · subst e e'
        have := (q_cmp_talks 18 Vp Vq k k').1
        rw [plain_inj V.v.v n1 n2] at this
        exact this
    · have := s_isdue (F := Fn P 19) (h := g) V.n pm h8
      rw [pe] at this
      exact this
    · subst e1 e2
      rw [q_ne_bl, beq_self_eq_true]
      rfl
end
end K89
end

section
set_option Elab.async false
set_option linter.all false
set_option maxRecDepth 100000
set_option maxHeartbeats 2000000
/-! Texts of rows of rules: unlike rows have unlike texts. -/
namespace K89
open PySem PyProof PyProof.Rows
def jn (ts : List Str) : List Nat := (Str.join ", " ts).cps.toList
theorem jn_nil : jn [] = [] := rfl
theorem jn_one (x : Str) : jn [x] = x.cps.toList := rfl
theorem jn_cons (x y : Str) (r : List Str) : jn (x :: y :: r) = x.cps.toList ++ (44 :: 32 :: jn (y :: r)) := by
  unfold jn
  rw [join_cons_cons, cps_toList_append, cps_toList_append, List.append_assoc]
  rfl
def Good (s : Str) : Prop := ∃ b, s.cps.toList = 40 :: (b ++ [41]) ∧ 41 ∉ b
theorem split41 {a b c d : List Nat} (h : a ++ 41 :: c = b ++ 41 :: d) (ha : 41 ∉ a) (hb : 41 ∉ b) : a = b ∧ c = d := by
  induction a generalizing b with
  | nil =>
    cases b with
    | nil => exact ⟨rfl, by injection h⟩
    | cons y b =>
      injection h with h1 _
      exact absurd (h1 ▸ List.mem_cons_self) hb
  | cons x a ih =>
    cases b with
    | nil =>
      injection h with h1 _
      exact absurd (h1 ▸ List.mem_cons_self) ha
    | cons y b =>
      injection h with h1 h2
      obtain ⟨e1, e2⟩ := ih h2 (fun z => ha (List.mem_cons_of_mem _ z)) (fun z => hb (List.mem_cons_of_mem _ z))
      exact ⟨by rw [h1, e1], e2⟩
def Tl (t : List Nat) : Prop := t = [41] ∨ t = [44, 41]
theorem jn_inj : ∀ (xs ys : List Str) (t u : List Nat), (∀ x ∈ xs, Good x) → (∀ y ∈ ys, Good y) → Tl t → Tl u → jn xs ++ t = jn ys ++ u → xs = ys
  | [], [], _, _, _, _, _, _, _ => rfl
  | [], y :: ys, t, u, _, hy, ht, _, e => by
    obtain ⟨b, eb, _⟩ := hy y List.mem_cons_self
    have hd : ∃ r, jn (y :: ys) ++ u = 40 :: r := by
      cases ys with
      | nil => exact ⟨_, by rw [jn_one, eb]; rfl⟩
      | cons z ys => exact ⟨_, by rw [jn_cons, eb]; rfl⟩
    obtain ⟨r, hr⟩ := hd
    rw [hr, jn_nil, List.nil_append] at e
    rcases ht with rfl | rfl <;> cases e
  | x :: xs, [], t, u, hx, _, _, hu, e => by
    obtain ⟨b, eb, _⟩ := hx x List.mem_cons_self
    have hd : ∃ r, jn (x :: xs) ++ t = 40 :: r := by
      cases xs with
      | nil => exact ⟨_, by rw [jn_one, eb]; rfl⟩
      | cons z xs => exact ⟨_, by rw [jn_cons, eb]; rfl⟩
    obtain ⟨r, hr⟩ := hd
    rw [hr, jn_nil, List.nil_append] at e
    rcases hu with rfl | rfl <;> cases e
  | x :: xs, y :: ys, t, u, hx, hy, ht, hu, e => by
    obtain ⟨b, eb, nb⟩ := hx x List.mem_cons_self
    obtain ⟨d, ed, nd⟩ := hy y List.mem_cons_self
    have same : ∀ R S : List Nat, x.cps.toList ++ R = y.cps.toList ++ S → x = y ∧ R = S := fun R S e => by
      rw [eb, ed, List.cons_append, List.cons_append, List.append_assoc, List.append_assoc] at e
      injection e with _ e
      obtain ⟨e1, e2⟩ := split41 e nb nd
      refine ⟨Str.ext' ?_, e2⟩
      have : x.cps.toList = y.cps.toList := by rw [eb, ed, e1]
      exact Array.toList_inj.mp this
    have ix := fun z hz => hx z (List.mem_cons_of_mem _ hz)
    have iy := fun z hz => hy z (List.mem_cons_of_mem _ hz)
    cases xs with
    | nil =>
      cases ys with
      | nil =>
        rw [jn_one, jn_one] at e
        rw [(same _ _ e).1]
      | cons z ys =>
        rw [jn_one, jn_cons, List.append_assoc] at e
        have := (same _ _ e).2
        rcases ht with rfl | rfl <;> cases this
    | cons w xs =>
      cases ys with
      | nil =>
        rw [jn_one, jn_cons, List.append_assoc] at e
        have := (same _ _ e).2
        rcases hu with rfl | rfl <;> cases this
      | cons z ys =>
        rw [jn_cons, jn_cons, List.append_assoc, List.append_assoc] at e
        obtain ⟨e1, e2⟩ := same _ _ e
        injection e2 with _ e2
        injection e2 with _ e2
        rw [e1, jn_inj (w :: xs) (z :: ys) t u ix iy ht hu e2]
theorem tup_inj {xs ys : List Str} (hx : ∀ x ∈ xs, Good x) (hy : ∀ y ∈ ys, Good y) (e : tupleText xs = tupleText ys) : xs = ys := by
  have k : ∀ ts : List Str, ∃ t, Tl t ∧ (tupleText ts).cps.toList = 40 :: (jn ts ++ t) := fun ts => by
    unfold tupleText
    rw [cps_toList_append, cps_toList_append]
    by_cases h : ts.length == 1
    · exact ⟨[44, 41], .inr rfl, by rw [if_pos h]; rfl⟩
    · exact ⟨[41], .inl rfl, by rw [if_neg h]; rfl⟩
  obtain ⟨t, ht, e1⟩ := k xs
  obtain ⟨u, hu, e2⟩ := k ys
  rw [e, e2] at e1
  injection e1 with _ e1
  exact (jn_inj ys xs u t hy hx hu ht e1).symm
end K89
end

section
set_option Elab.async false
set_option linter.all false
set_option maxRecDepth 100000
set_option maxHeartbeats 4000000
/-! Texts of the rules of talks of few cases: unlike talks, unlike texts. -/
namespace K89
open PySem L2 R PyProof PyProof.Rows
def rt (r : Rule) : Str := (dR r).shown
def allRules (ms ws : List Str) : List Rule := statuses.flatMap fun s => ms.flatMap fun m => (evs ws).flatMap fun e => (none :: some sGive :: ws.map some).flatMap fun y => [⟨some s, some m, e, none, y, true⟩, ⟨some s, some m, e, none, y, false⟩]
def goodB (s : Str) : Bool := match s.cps.toList with
  | 40 :: l => l == l.dropLast ++ [41] && !l.dropLast.contains 41
  | _ => false
theorem goodB_ok {s : Str} (h : goodB s = true) : Good s := by
  unfold goodB at h
  split at h
  · rename_i l e
    rw [Bool.and_eq_true] at h
    refine ⟨l.dropLast, by rw [e]; congr 1; exact beq_iff_eq.mp h.1, ?_⟩
    have := h.2
    simpa using this
  · cases h
def codeS (s : Str) : Nat := s.cps.toList.foldl (fun a c => a * 1114112 + c) 1
def ndB : List Nat → Bool
  | [] => true
  | x :: l => l.all (fun y => !(Nat.beq x y)) && ndB l
theorem ndB_inj {α : Type} {f : α → Nat} : ∀ {l : List α}, ndB (l.map f) = true → ∀ {a b : α}, a ∈ l → b ∈ l → f a = f b → a = b
  | [], _, _, _, ha, _, _ => absurd ha List.not_mem_nil
  | x :: l, h, a, b, ha, hb, e => by
    rw [List.map_cons, ndB, Bool.and_eq_true, List.all_eq_true] at h
    have ne : ∀ y ∈ l, f x ≠ f y := fun y hy e => by
      have := h.1 (f y) (List.mem_map_of_mem hy)
      rw [e] at this
      simp at this
    rcases List.mem_cons.mp ha with ea | ha2
    · rcases List.mem_cons.mp hb with eb | hb2
      · rw [ea, eb]
      · exact absurd (ea ▸ e) (ne b hb2)
    · rcases List.mem_cons.mp hb with eb | hb2
      · exact absurd (eb ▸ e.symm) (ne a ha2)
      · exact ndB_inj h.2 ha2 hb2 e
def uniB (ms ws : List Str) : Bool := (allRules ms ws).all (fun r => goodB (rt r)) && ndB ((allRules ms ws).map fun r => codeS (rt r))
theorem uni_m : uniB ["m"] [] = true := by decide +kernel
theorem uni_x : uniB ["x"] ["w"] = true := by decide +kernel
theorem uni_inj {ms ws : List Str} (u : uniB ms ws = true) {a b : Rule} (ha : a ∈ allRules ms ws) (hb : b ∈ allRules ms ws) (e : rt a = rt b) : a = b := by
  unfold uniB at u
  rw [Bool.and_eq_true] at u
  exact ndB_inj u.2 ha hb (by rw [e])
theorem uni_good {ms ws : List Str} (u : uniB ms ws = true) {a : Rule} (ha : a ∈ allRules ms ws) : Good (rt a) := by
  unfold uniB at u
  rw [Bool.and_eq_true, List.all_eq_true] at u
  exact goodB_ok (u.1 a ha)
theorem rules_all {m : Str} {ws : List Str} {n : Nat} : ∀ r ∈ plainRules [m] ws n, r ∈ allRules [m] ws := by
  intro r hr
  unfold plainRules at hr
  rw [List.mem_filterMap] at hr
  obtain ⟨⟨c, pl⟩, hc, e⟩ := hr
  have hc := (List.of_mem_zip hc).1
  unfold ruleBy at e
  simp only [List.length_cons, List.length_nil, Nat.zero_add, Nat.mod_one, List.getD_cons_zero] at e
  unfold casesOf at hc
  simp only [List.mem_flatMap, List.mem_map, List.mem_cons, List.not_mem_nil, or_false, exists_eq_left] at hc
  obtain ⟨s, hs, ev, hev, rfl⟩ := hc
  simp only [if_true] at e
  split at e
  · cases e
  · injection e with e
    subst e
    have hsay : ∀ (says : List OS) (i : Nat), (∀ o ∈ says, o ∈ none :: some sGive :: ws.map some) → says.getD i none ∈ none :: some sGive :: ws.map some := fun says i h => by
      rw [List.getD_eq_getElem?_getD]
      cases e : says[i]? with
      | none => exact List.mem_cons_self
      | some o => exact h o (List.mem_of_getElem? e)
    have h2 := hsay (saysOf ws (s, m, ev)) (pl / 1 % (saysOf ws (s, m, ev)).length) (by
      intro o ho
      unfold saysOf at ho
      split at ho
      · rcases List.mem_cons.mp ho with rfl | ho
        · exact List.mem_cons_self
        · exact List.mem_cons_of_mem _ (List.mem_cons_of_mem _ ho)
      · exact ho)
    unfold allRules
    simp only [List.mem_flatMap, List.mem_cons, List.not_mem_nil, or_false]
    refine ⟨s, hs, m, rfl, ev, hev, _, List.mem_cons.mp h2 |>.imp id List.mem_cons.mp, ?_⟩
    cases decide (pl / 1 < (saysOf ws (s, m, ev)).length)
    · exact .inr rfl
    · exact .inl rfl
theorem map_inj_on {α β : Type} {f : α → β} : ∀ {xs ys : List α}, (∀ a ∈ xs, ∀ b ∈ ys, f a = f b → a = b) → xs.map f = ys.map f → xs = ys
  | [], [], _, _ => rfl
  | [], _ :: _, _, e => by cases e
  | _ :: _, [], _, e => by cases e
  | x :: xs, y :: ys, h, e => by
    rw [List.map_cons, List.map_cons] at e
    injection e with e1 e2
    rw [h x List.mem_cons_self y List.mem_cons_self e1, map_inj_on (fun a ha b hb => h a (List.mem_cons_of_mem _ ha) b (List.mem_cons_of_mem _ hb)) e2]
/-- the text of a plain talk's rules -/
def tx (ms ws : List Str) (n : Nat) : Str := (PyData.tuple ((plainRules ms ws n).map dR)).shown
theorem tx_inj {m : Str} {ws : List Str} (u : uniB [m] ws = true) (v : ValM [m] ws) {i j : Nat} (hi : i < many [m] ws) (hj : j < many [m] ws) (e : tx [m] ws i = tx [m] ws j) : i = j := by
  unfold tx at e
  simp only [PyData.shown, shownAll_eq_map, List.map_map] at e
  have g : ∀ n, ∀ x ∈ (plainRules [m] ws n).map (PyData.shown ∘ dR), Good x := fun n x hx => by
    obtain ⟨r, hr, rfl⟩ := List.mem_map.mp hx
    exact uni_good u (rules_all r hr)
  have e1 := tup_inj (g i) (g j) e
  have e2 := map_inj_on (fun a ha b hb e => uni_inj u (rules_all a ha) (rules_all b hb) e) e1
  have := plain_inj v hi hj
  rw [e2, beq_self_eq_true] at this
  exact beq_iff_eq.mp this.symm
theorem unl_nodup {xs : List Str} (nd : xs.Nodup) : ∀ k, k ≤ xs.length → unl xs k = k
  | 0, _ => rfl
  | k + 1, h => by
    rw [unl, unl_nodup nd k (by omega), if_neg]
    intro hany
    rw [List.any_eq_true] at hany
    obtain ⟨y, hy, e⟩ := hany
    rw [beq_iff_eq] at e
    obtain ⟨j, hj, ej⟩ := List.mem_take_iff_getElem.mp hy
    have hk : k < xs.length := by omega
    rw [List.getD_eq_getElem?_getD, List.getElem?_eq_getElem hk, Option.getD_some] at e
    have := List.pairwise_iff_getElem.mp nd j k (by omega) hk (by omega)
    exact this (ej.trans e)
theorem tx_nodup {m : Str} {ws : List Str} (u : uniB [m] ws = true) (v : ValM [m] ws) (s n : Nat) (h : s + n ≤ many [m] ws) : ((List.range n).map fun i => tx [m] ws (s + i)).Nodup := by
  refine List.pairwise_iff_getElem.mpr fun i j hi hj lt e => ?_
  simp only [List.length_map, List.length_range] at hi hj
  simp only [List.getElem_map, List.getElem_range] at e
  have := tx_inj u v (by omega) (by omega) e
  omega
theorem bulkAll_map {α : Type} {f : α → PyData} {B : Nat} : ∀ {l : List α}, (∀ a ∈ l, (f a).bulk ≤ B) → PyData.bulkAll (l.map f) ≤ (B + 1) * l.length
  | [], _ => Nat.zero_le _
  | a :: l, h => by
    have h1 := h a List.mem_cons_self
    have h2 := bulkAll_map fun x hx => h x (List.mem_cons_of_mem _ hx)
    rw [List.map_cons, PyData.bulkAll, List.length_cons, Nat.mul_add]
    omega
theorem leavesAll_map {α : Type} {f : α → PyData} {B : Nat} : ∀ {l : List α}, (∀ a ∈ l, (f a).leavesShort B = true) → PyData.leavesShortAll B (l.map f) = true
  | [], _ => rfl
  | a :: l, h => by rw [List.map_cons, PyData.leavesShortAll, h a List.mem_cons_self, leavesAll_map fun x hx => h x (List.mem_cons_of_mem _ hx), Bool.and_self]
theorem showAll_map {α : Type} {f : α → PyData} : ∀ {l : List α}, (∀ a ∈ l, (f a).showable = true) → PyData.showableAll (l.map f) = true
  | [], _ => rfl
  | a :: l, h => by rw [List.map_cons, PyData.showableAll, h a List.mem_cons_self, showAll_map fun x hx => h x (List.mem_cons_of_mem _ hx), Bool.and_self]
def shortO (o : OS) : Prop := ∀ s, o = some s → shortS s
theorem dO_short {o : OS} (k : shortO o) : (dO o).bulk ≤ 8 ∧ (dO o).leavesShort 8 = true ∧ (dO o).showable = true := by
  cases o with
  | none => exact ⟨by simp [dO, PyData.bulk], rfl, rfl⟩
  | some s => exact ⟨(k s rfl).2, by simp only [dO, PyData.leavesShort, ok_small (k s rfl).1], rfl⟩
theorem rule_short {ms ws : List Str} (v : ValN ms ws) {r : Rule} (k : RuleOk ms ws r) : (dR r).bulk ≤ 60 ∧ (dR r).leavesShort 8 = true ∧ (dR r).showable = true := by
  have st8 : ∀ s ∈ statuses, s.length ≤ 8 := by decide +kernel
  have o1 : shortO r.st := fun s e => ⟨statuses_ok _ (k.st s e), st8 _ (k.st s e)⟩
  have o2 : shortO r.mood := fun s e => ⟨(v.nm _ (k.mood s e)).ok, (v.nm _ (k.mood s e)).l8⟩
  have o3 : shortO r.later := fun s e => ⟨(v.nm _ (k.later s e)).ok, (v.nm _ (k.later s e)).l8⟩
  have o4 : shortO r.say := fun s e => by
    rcases k.say s e with rfl | h
    · exact ⟨give_ok, by decide +kernel⟩
    · exact ⟨(v.nw _ h).ok, (v.nw _ h).l8⟩
  have o5 : shortS r.ev := by
    have h3 := k.ev
    simp only [evs, List.mem_cons] at h3
    rcases h3 with e | e | e
    · rw [e]; exact ⟨beat_ok, by decide +kernel⟩
    · rw [e]; exact ⟨give_ok, by decide +kernel⟩
    · exact ⟨(v.nw _ e).ok, (v.nw _ e).l8⟩
  obtain ⟨a1, a2, a3⟩ := dO_short o1
  obtain ⟨b1, b2, b3⟩ := dO_short o2
  obtain ⟨c1, c2, c3⟩ := dO_short o3
  obtain ⟨d1, d2, d3⟩ := dO_short o4
  have e1 : r.ev.cps.size ≤ 8 := o5.2
  refine ⟨?_, ?_, ?_⟩
  · simp only [dR, PyData.bulk, PyData.bulkAll]
    omega
  · simp only [dR, PyData.leavesShort, PyData.leavesShortAll, a2, b2, c2, d2, ok_small o5.1, Bool.and_self]
  · simp only [dR, PyData.showable, PyData.showableAll, a3, b3, c3, d3, Bool.and_self]
theorem q_repr_rules {ms ws : List Str} (v : ValN ms ws) {rs : List Rule} (k : ∀ r ∈ rs, RuleOk ms ws r) (hl : rs.length ≤ 90) (h : PH) : doBlt .repr [.tup (rs.map ruleV)] h = .ok (.str (PyData.tuple (rs.map dR)).shown) h := by
  have d1 := (dv_tup (h := h) (by decide) (dv_rules v k)).1
  have e1 := dd_rules (h := h) v k
  have sh : ∀ r ∈ rs, _ := fun r hr => rule_short v (k r hr)
  have q := q_repr d1 ?_ ?_ (.inr (.inl ⟨_, rfl⟩))
  · rw [e1] at q
    exact q
  · rw [e1]
    simp only [PyData.showable]
    exact showAll_map fun r hr => (sh r hr).2.2
  · rw [e1]
    have lv : PyData.leavesShortAll 8 (rs.map dR) = true := leavesAll_map fun r hr => (sh r hr).2.1
    have bk : PyData.bulkAll (rs.map dR) ≤ (60 + 1) * rs.length := bulkAll_map fun r hr => (sh r hr).1
    have le := PyData.shown_le_bulk 8 (by decide) (.tuple (rs.map dR)) (by simp only [PyData.leavesShort, lv])
    refine Nat.le_trans le ?_
    simp only [PyData.bulk]
    unfold sizeL
    omega
end K89
end

section
set_option Elab.async false
set_option linter.all false
set_option maxRecDepth 100000
set_option maxHeartbeats 4000000
namespace K89
open PySem L2 R
theorem exs_cons {F : FF} {s : S} {r : List S} {sl : Sl} {h : PH} {D : Po} (k : osat (ex P F s sl h) { D with nx := fun s h => osat (exs P F r s h) D }) : osat (exs P F (s :: r) sl h) D := by
  simp only [exs, osat_bind]
  exact k
/-- a comprehension's items, told by what they are -/
theorem cl_rel {tg : Tg} {vs : List Nat} {c : Sl → PH → Rs Bool} {body : Sl → PH → List PV → Rs (List PV)} {src : Src} {sl : Sl} {h : PH} {l : List Itm} (Rl : Nat → PV → PH → Prop) (mono : ∀ i v g g', Rl i v g → Ex g g' → Rl i v g') (hy : ∀ g, Ex h g → Yields src l g)
    (hs : ∀ i x g, l[i]? = some x → Ex h g → ∃ s1, asg tg x g (wipeS sl vs) = some s1 ∧ c s1 g = .ok true g ∧ ∀ acc, acc.length < sizeL → sat (body s1 g acc) fun a2 g2 => ∃ v, a2 = acc ++ [v] ∧ Rl i v g2 ∧ Ex g g2) (hz : l.length ≤ sizeL) :
    sat (match src.len h with
      | some n => clGo tg vs c body src sl n 0 [] h
      | none => .bad) fun acc g => Ex h g ∧ acc.length = l.length ∧ ∀ i v, acc[i]? = some v → Rl i v g := by
  refine cl_all (Inv := fun pre a g => Ex h g ∧ a.length = pre.length ∧ ∀ i v, a[i]? = some v → Rl i v g) ⟨Ex.refl h, rfl, by simp⟩ (fun pre a g I => hy g I.1) (fun pre x post a g hl ⟨y, le, k⟩ => ?_) fun a g ⟨y, le, k⟩ => ⟨y, le, k⟩
  obtain ⟨s1, h1, h2, h3⟩ := hs pre.length x g (by rw [hl]; simp) y
  refine ⟨s1, h1, ?_⟩
  rw [h2]
  have la : a.length < sizeL := by
    have := congrArg List.length hl
    rw [List.length_append, List.length_cons] at this
    omega
  refine (?_ : sat (body s1 g a) _)
  refine sat_mono (h3 a la) fun a2 g2 ⟨v, e, r, y2⟩ => ?_
  subst e
  refine ⟨y.trans y2, by simp [le], fun i w hw => ?_⟩
  rcases Nat.lt_or_ge i a.length with hi | hi
  · rw [List.getElem?_append_left hi] at hw
    exact mono i w g g2 (k i w hw) y2
  · rw [List.getElem?_append_right hi] at hw
    have : i - a.length = 0 := by
      rcases Nat.eq_zero_or_pos (i - a.length) with z | z
      · exact z
      · rw [List.getElem?_eq_none (by simp; omega)] at hw
        cases hw
    rw [this] at hw
    simp only [List.getElem?_cons_zero, Option.some.injEq] at hw
    subst hw
    have : i = pre.length := by omega
    rw [this]
    exact r
theorem p_drawI {n i : Nat} {e : E} {sl : Sl} {h : PH} {p : Nat} {Q : PV → PH → Prop} (ns : isSt e = false) (h0 : sl.getD i none = some (.ref p)) (a : Pen h p)
    (he : sat (ev P (Fn P (n + 1)) e sl h) fun v h1 => (Px h h1 ∧ ∃ m : Int, v = .int m ∧ m.natAbs ≤ Big ∧ ∀ (k : Nat) (h' : PH), Px h1 h' → (1 ≤ m → (k : Int) < m) → (m < 1 → k = 0) → Q (.int k) h')) : sat (ev P (Fn P (n + 1)) (.fn "_law_draw" [(.var i), e]) sl h) Q := by
  rw [v_fn, q_evs_var, v_var, h0]
  simp only [rs_of_some, Rs.bind_ok, sat_bind]
  rw [evs_cons ns]
  simp only [q_evs_nil, Rs.bind_ok]
  simp only [sat_bind, sat_ok]
  refine sat_mono he fun v h1 ⟨x, m, e, l1, q⟩ => ?_
  subst e
  exact s_draw n (a.px x) m l1 q
theorem p_draw64 {n i : Nat} {sl : Sl} {h : PH} {p : Nat} {Q : PV → PH → Prop} (h0 : sl.getD i none = some (.ref p)) (a : Pen h p)
    (q : ∀ k < 64, ∀ h', Px h h' → Q (.int (k : Nat)) h') : sat (ev P (Fn P (n + 1)) (.fn "_law_draw" [(.var i), .con (.int 64)]) sl h) Q :=
  p_drawI rfl h0 a (eq_sat (v := .int (64 : Nat)) (h := h) (by simp) ⟨Px.refl _, 64, rfl, sm_big (by decide), fun k h' x l _ => q k (by have := l (by omega); omega) h' x⟩)
def mX : List Str := ["x"]
def wW : List Str := ["w"]
def m1 : List Str := ["m"]
/-- the moods and words of the last part -/
structure End (ms ws : List Str) : Prop where
  v : ValN ms ws
  c : ∃ m, ms = [m] ∧ uniB [m] ws = true
  lo : 64 ≤ many ms ws
  hi : many ms ws ≤ 20000
theorem end_m : End m1 [] := ⟨valN (by decide +kernel), ⟨_, rfl, uni_m⟩, by decide +kernel, by decide +kernel⟩
theorem end_x : End mX wW := ⟨valN (by decide +kernel), ⟨_, rfl, uni_x⟩, by decide +kernel, by decide +kernel⟩
/-- 64 talks of consecutive numbers -/
def Talks (ms ws : List Str) (s : Nat) (l : List PV) (h : PH) : Prop := l.length = 64 ∧ ∀ i v, l[i]? = some v → ∃ t, v = .ref t ∧ TalkAt h t (plainTk ms ws (s + i))
theorem Talks.px {ms ws : List Str} {s : Nat} {l : List PV} {h h' : PH} (a : Talks ms ws s l h) (x : Px h h') : Talks ms ws s l h' := ⟨a.1, fun i v e => let ⟨t, e1, k⟩ := a.2 i v e; ⟨t, e1, talk_px k x⟩⟩
theorem Talks.nop {ms ws : List Str} {s : Nat} {l : List PV} {h : PH} (a : Talks ms ws s l h) : NoP l := nop_of fun x hx s e => by
  obtain ⟨i, hi, e2⟩ := List.getElem_of_mem hx
  obtain ⟨t, e3, _⟩ := a.2 i x (by rw [List.getElem?_eq_getElem hi, e2])
  rw [e] at e3
  cases e3
theorem Talks.at {ms ws : List Str} {s : Nat} {l : List PV} {h : PH} (a : Talks ms ws s l h) {i : Nat} (hi : i < 64) : ∃ t, l[i]? = some (.ref t) ∧ TalkAt h t (plainTk ms ws (s + i)) := by
  have hl : i < l.length := by rw [a.1]; exact hi
  obtain ⟨t, e, k⟩ := a.2 i l[i] (List.getElem?_eq_getElem hl)
  exact ⟨t, by rw [List.getElem?_eq_getElem hl, e], k⟩
theorem rngL_at {s : Int} {n i : Nat} {x : PV} (e : (rngL s n)[i]? = some x) : x = .int (s + (i : Nat)) ∧ i < n := by
  unfold rngL at e
  rw [List.getElem?_map] at e
  cases h : (List.range n)[i]? with
  | none => rw [h] at e; cases e
  | some j =>
    rw [h] at e
    have hi : i < n := by
      have := (List.getElem?_eq_some_iff.mp h).1
      simpa using this
    rw [List.getElem?_range hi] at h
    injection h with h
    subst h
    injection e with e
    exact ⟨e.symm, hi⟩
theorem rngL_len (s : Int) (n : Nat) : (rngL s n).length = n := by simp [rngL]
theorem ev_rg {s : Nat} {sl : Sl} {h : PH} (hs : s ≤ 20000) (h4 : sl.getD 4 none = some (.int (s : Nat))) : evIt P (Fn P 19) (.itR2 (.var 4) (.bin .add (.var 4) (.con (.int 64)))) sl h = .ok (.its (rngL s 64)) h := by
  have sr : srcR (.int (s : Nat)) (.int ((s : Nat) + 64)) = some (.its (rngL s 64)) := by
    simp only [srcR]
    rw [if_pos (by omega)]
    congr 3
    omega
  rw [evIt, v_var, h4, rs_of_some, Rs.bind_ok, v_bin, v_var, h4, rs_of_some, Rs.bind_ok, v_con, Rs.bind_ok, q_add_int, Rs.bind_ok, sr, rs_of_some]
theorem s_some {ms ws : List Str} (E : End ms ws) {s A B : Nat} {sl : Sl} {h : PH} {it : R.E} (he : evIt P (Fn P 19) it sl h = .ok (.its (rngL s 64)) h) (hs : s + 64 ≤ many ms ws) (h10 : (wipeS sl [16]).getD 10 none = some (.ref A)) (h11 : (wipeS sl [16]).getD 11 none = some (.ref B)) (l16 : 16 < sl.length) (eA : h[A]? = some (.lst (ms.map .str))) (eB : h[B]? = some (.lst (ws.map .str))) :
    sat (ev P (Fn P 19) (.lcm false (.one 16) [16] it (.con (.bl true)) (.emit (.fn "talk_by" [(.var 10), (.var 11), (.var 16)]))) sl h) fun v g => ∃ n l, v = .ref n ∧ g[n]? = some (.lst l) ∧ Talks ms ws s l g ∧ Ex h g := by
  have hi := E.hi
  rw [ev, he, Rs.bind_ok, sat_bind, sat_noEr]
  refine sat_mono (cl_rel (l := (rngL s 64).map .one) (Rl := fun i v g => ∃ t, v = .ref t ∧ TalkAt g t (plainTk ms ws (s + i))) (fun i v g g' ⟨t, e, k⟩ y => ⟨t, e, k.ex y⟩) (fun g y => yields_its _ _) (fun i x g hx y => ?_) (by rw [List.length_map, rngL_len]; unfold sizeL; omega)) fun acc g ⟨y, le, k⟩ => ?_
  · rw [List.getElem?_map] at hx
    cases hr : (rngL s 64)[i]? with
    | none => rw [hr] at hx; cases hx
    | some z =>
      rw [hr] at hx
      injection hx with hx
      subst hx
      obtain ⟨rfl, hi64⟩ := rngL_at hr
      refine ⟨_, rfl, by simp, fun acc la => ?_⟩
      have gd : ∀ j, j ≠ 16 → ((wipeS sl [16]).set 16 (some (.int ((s : Int) + (i : Nat))))).getD j none = (wipeS sl [16]).getD j none := fun j hj => by
        rw [List.getD_eq_getElem?_getD, List.getD_eq_getElem?_getD, List.getElem?_set_ne (fun e => hj e.symm)]
      have g16 : ((wipeS sl [16]).set 16 (some (.int ((s : Int) + (i : Nat))))).getD 16 none = some (.int ((s + i : Nat))) := by
        rw [List.getD_eq_getElem?_getD, List.getElem?_set_self (by simp [wipeS]; exact l16)]
        simp
      simp only [evC, sat_bind, v_fn, q_evs_var, q_evs_nil, v_var, gd 10 (by decide), gd 11 (by decide), h10, h11, g16, rs_of_some, Rs.bind_ok]
      refine sat_mono (s_talk_by 13 E.v (.inr ⟨_, rfl, y _ _ eA⟩) (.inr ⟨_, rfl, y _ _ eB⟩) (s + i) (by omega)) fun v g2 ⟨t, e, tk, y2⟩ => ?_
      subst e
      rw [if_pos la]
      exact ⟨_, rfl, ⟨t, rfl, tk⟩, y2⟩
  · rw [List.length_map, rngL_len] at le
    simp only [newF, Bool.false_eq_true, if_false, newO_eq, sat_ok]
    have x := Ex.app g [PO.lst acc]
    exact ⟨_, _, rfl, get_new _ _, ⟨le, fun i v e => let ⟨t, e1, k⟩ := k i v e; ⟨t, e1, k.ex x⟩⟩, y.trans x⟩
end K89
end

section
set_option Elab.async false
set_option linter.all false
set_option maxRecDepth 100000
set_option maxHeartbeats 4000000
namespace K89
open PySem L2 R
theorem s_over {fr : Bool} {e : E} {n : Nat} {l : List PV} {sl : Sl} {h : PH} (Rl : Nat → PV → PH → Prop) (mono : ∀ i v g g', Rl i v g → Ex g g' → Rl i v g') (h5 : sl.getD 5 none = some (.ref n)) (en : h[n]? = some (.lst l)) (lz : l.length ≤ 1000)
    (he : ∀ i x g, l[i]? = some x → Ex h g → sat (ev P (Fn P 19) e ((wipeS sl [18]).set 18 (some x)) g) fun v g2 => Rl i v g2 ∧ Ex g g2) :
    sat (ev P (Fn P 19) (.lcm fr (.one 18) [18] (.itE (.var 5)) (.con (.bl true)) (.emit e)) sl h) fun v g => ∃ acc g1, Ex h g1 ∧ acc.length = l.length ∧ (∀ i v, acc[i]? = some v → Rl i v g1) ∧ newF fr acc g1 = .ok v g := by
  have hi : evIt P (Fn P 19) (.itE (.var 5)) sl h = .ok (.ref n) h := by
    rw [evIt, v_var, h5, rs_of_some, Rs.bind_ok, src_ref en, rs_of_some]
  rw [ev, hi, Rs.bind_ok, sat_bind, sat_noEr]
  refine sat_mono (cl_rel (l := l.map .one) (Rl := Rl) mono (fun g y => yields_ref (y _ _ en)) (fun i x g hx y => ?_) (by rw [List.length_map]; unfold sizeL; omega)) fun acc g ⟨y, le, k⟩ => ?_
  · rw [List.getElem?_map] at hx
    cases hr : l[i]? with
    | none => rw [hr] at hx; cases hx
    | some z =>
      rw [hr] at hx
      injection hx with hx
      subst hx
      refine ⟨_, rfl, by simp, fun acc la => ?_⟩
      rw [evC, sat_bind]
      refine sat_mono (he i z g hr y) fun v g2 ⟨r, y2⟩ => ?_
      rw [if_pos la]
      exact ⟨_, rfl, r, y2⟩
  · rw [List.length_map] at le
    cases fr with
    | true => exact ⟨acc, g, y, le, k, rfl⟩
    | false => exact ⟨acc, g, y, le, k, rfl⟩
theorem g18 {sl : Sl} {x : PV} (hl : 18 < sl.length) : ((wipeS sl [18]).set 18 (some x)).getD 18 none = some x := by
  rw [List.getD_eq_getElem?_getD, List.getElem?_set_self (by simp [wipeS]; exact hl)]
  rfl
theorem acc_rng {acc : List PV} {s : Nat} (hl : acc.length = 64) (k : ∀ (i : Nat) (v : PV), acc[i]? = some v → v = PV.int ((s + i : Nat))) : acc = rngL s 64 := by
  refine List.ext_getElem (by rw [hl, rngL_len]) fun i h1 h2 => ?_
  have e1 := k i _ (List.getElem?_eq_getElem h1)
  have e2 := (rngL_at (List.getElem?_eq_getElem h2)).1
  rw [e1, e2]
  simp
theorem lrg_ok {x y : PV} {l : List PV} {h : PH} (e : srcR x y = some (.its l)) (hl : l.length ≤ sizeL) : lrgM x y h = .ok (.ref h.length) (h ++ [.lst l]) := by
  unfold lrgM
  rw [e]
  exact if_pos hl
theorem ev_lrg {sl : Sl} {h : PH} {s : Nat} (h4 : sl.getD 4 none = some (.int (s : Nat))) (hs : s ≤ 20000) : ev P (Fn P 19) (.lrg (.var 4) (.bin .add (.var 4) (.con (.int 64)))) sl h = .ok (.ref h.length) (h ++ [.lst (rngL s 64)]) := by
  have sr : srcR (.int (s : Nat)) (.int ((s : Nat) + 64)) = some (.its (rngL s 64)) := by
    simp only [srcR]
    rw [if_pos (by omega)]
    congr 3
    omega
  rw [v_lrg, v_var, h4, rs_of_some, Rs.bind_ok, v_bin, v_var, h4, rs_of_some, Rs.bind_ok, v_con, Rs.bind_ok, q_add_int, Rs.bind_ok]
  exact lrg_ok sr (by rw [rngL_len]; unfold sizeL; omega)
section
variable {ms ws : List Str} {s n : Nat} {l : List PV} {sl : Sl} {h : PH}
theorem s_nums (E : End ms ws) (hs : s + 64 ≤ many ms ws) (h4 : sl.getD 4 none = some (.int (s : Nat))) (h5 : sl.getD 5 none = some (.ref n)) (l18 : 18 < sl.length) (en : h[n]? = some (.lst l)) (tk : Talks ms ws s l h) :
    sat (ev P (Fn P 19) (.cmp .ne (.lcm false (.one 18) [18] (.itE (.var 5)) (.con (.bl true)) (.emit (.fn "talk_number" [(.var 18)]))) (.lrg (.var 4) (.bin .add (.var 4) (.con (.int 64))))) sl h) fun v g => v = .bl false ∧ Ex h g := by
  have hi := E.hi
  rw [v_cmp, sat_bind]
  refine sat_mono (s_over (Rl := fun i v _ => v = .int ((s + i : Nat))) (fun _ _ _ _ e _ => e) h5 en (by rw [tk.1]; decide) fun i x g hx y => ?_) fun v g ⟨acc, g1, y1, le, k, e⟩ => ?_
  · obtain ⟨t, rfl, ta⟩ := tk.2 i x hx
    have i64 : i < 64 := by rw [← tk.1]; exact (List.getElem?_eq_some_iff.mp hx).1
    have q := q_talk_number 14 (ta.ex y) (E.v.plain (s + i)).v
    rw [number_plain E.v.v (by omega)] at q
    exact ev_call1 (g18 l18) (eq_sat q ⟨rfl, Ex.app _ _⟩)
  · have ea := acc_rng (le.trans tk.1) k
    subst ea
    simp only [newF, Bool.false_eq_true, if_false, newO_eq, Rs.ok.injEq] at e
    obtain ⟨rfl, rfl⟩ := e
    have x1 := Ex.app g1 [PO.lst (rngL s 64)]
    have c1 := get_new g1 (.lst (rngL s 64))
    generalize g1 ++ [PO.lst (rngL s 64)] = g2 at *
    rw [ev_lrg h4 (by omega), Rs.bind_ok]
    have x2 := Ex.app g2 [PO.lst (rngL s 64)]
    have c2 := get_new g2 (.lst (rngL s 64))
    have c1 := x2 _ _ c1
    generalize g2 ++ [PO.lst (rngL s 64)] = g3 at *
    have dv : ∀ x ∈ rngL s 64, DV g3 1 x := fun x hx => by
      simp only [rngL, List.mem_map] at hx
      obtain ⟨j, _, rfl⟩ := hx
      exact (dv_int _).1
    have da := dv_ref (by decide) c1 dv
    have db := dv_ref (by decide) c2 dv
    have := d_ne_same da.1 db.1 rfl (da.2.trans db.2.symm)
    simp only [cmpE, meth_lst c1, this]
    exact ⟨rfl, y1.trans (x1.trans x2)⟩
theorem strs_map : ∀ ts : List Str, strsOf (ts.map .str) = some ts
  | [] => rfl
  | t :: ts => by rw [List.map_cons, strsOf, strs_map ts]; rfl
theorem s_texts (E : End ms ws) (hs : s + 64 ≤ many ms ws) (h5 : sl.getD 5 none = some (.ref n)) (l18 : 18 < sl.length) (en : h[n]? = some (.lst l)) (tk : Talks ms ws s l h) :
    sat (ev P (Fn P 19) (.cmp .eq (.lns (.lcm true (.one 18) [18] (.itE (.var 5)) (.con (.bl true)) (.emit (.blt .repr [(.fld (.var 18) "rules")])))) (.con (.int 64))) sl h) fun v g => v = .bl true ∧ Ex h g := by
  have hi := E.hi
  rw [v_cmp, sat_bind, v_lns, sat_bind]
  refine sat_mono (s_over (Rl := fun i v _ => v = .str (tx ms ws (s + i))) (fun _ _ _ _ e _ => e) h5 en (by rw [tk.1]; decide) fun i x g hx y => ?_) fun v g ⟨acc, g1, y1, le, k, e⟩ => ?_
  · obtain ⟨t, rfl, ta⟩ := tk.2 i x hx
    have V := E.v.plain (s + i)
    have ur : lookF P g (.ref t) "rules" = some (.tup ((plainRules ms ws (s + i)).map ruleV)) := (ta.ex y).rules
    have q := q_repr_rules E.v V.v.ok V.v.r90 g
    refine eq_sat (v := .str (tx ms ws (s + i))) (h := g) ?_ ⟨rfl, Ex.refl g⟩
    rw [v_blt, q_evs_fld, v_fld, v_var, g18 l18, rs_of_some, Rs.bind_ok, ur, rs_of_some, Rs.bind_ok, q_evs_nil, Rs.bind_ok, Rs.bind_ok]
    exact q
  · have e64 := le.trans tk.1
    have ea : acc = ((List.range 64).map fun i => tx ms ws (s + i)).map .str := by
      refine List.ext_getElem (by rw [e64]; simp) fun i h1 h2 => ?_
      rw [k i _ (List.getElem?_eq_getElem h1)]
      simp
    obtain ⟨m, rfl, u⟩ := E.c
    have nd := tx_nodup u E.v.v s 64 hs
    generalize hts : (List.range 64).map (fun i => tx [m] ws (s + i)) = ts at *
    have tl : ts.length = 64 := by rw [← hts]; simp
    subst ea
    simp only [newF, if_true, Rs.ok.injEq] at e
    obtain ⟨rfl, rfl⟩ := e
    have lm : lnsM (.fro (ts.map .str)) g1 = .ok (.int (64 : Nat)) g1 := by
      simp only [lnsM, seq_fro, isTupP0, Bool.false_eq_true, if_false, strs_map]
      rw [if_pos (by omega), unl_nodup nd _ (Nat.le_refl _), tl]
    rw [lm]
    simp
    exact y1
theorem s_alike (E : End ms ws) (hs : s + 64 ≤ many ms ws) {i j : Nat} (hi : i < 64) (hj : j < 64) (h5 : sl.getD 5 none = some (.ref n)) (h12 : sl.getD 12 none = some (.int (i : Nat))) (h13 : sl.getD 13 none = some (.int (j : Nat))) (en : h[n]? = some (.lst l)) (tk : Talks ms ws s l h) :
    sat (ev P (Fn P 19) (.cmp .ne (.fn "are_alike" [(.ix (.var 5) (.var 12)), (.ix (.var 5) (.var 13))]) (.cmp .eq (.var 12) (.var 13))) sl h) fun v g => v = .bl false ∧ Ex h g := by
  obtain ⟨t, et, ta⟩ := tk.at hi
  obtain ⟨u, eu, ua⟩ := tk.at hj
  rw [v_cmp, sat_bind, v_fn, q_evs_ix, v_ix, v_var, h5, rs_of_some, Rs.bind_ok, v_var, h12, rs_of_some, Rs.bind_ok, q_ix_ref _ en, atI_nat et, rs_of_some, Rs.bind_ok, q_evs_ix, v_ix, v_var, h5, rs_of_some, Rs.bind_ok, v_var, h13, rs_of_some, Rs.bind_ok, q_ix_ref _ en, atI_nat eu, rs_of_some, Rs.bind_ok, q_evs_nil, Rs.bind_ok, Rs.bind_ok, Rs.bind_ok]
  refine sat_mono (s_are_alike 14 (E.v.plain _) (E.v.plain _) ta ua) fun v g ⟨e, y⟩ => ?_
  subst e
  have n1 : number ⟨ms, ws, plainRules ms ws (s + i)⟩ = s + i := number_plain E.v.v (by omega)
  have n2 : number ⟨ms, ws, plainRules ms ws (s + j)⟩ = s + j := number_plain E.v.v (by omega)
  rw [n1, n2, v_cmp, v_var, h12, rs_of_some, Rs.bind_ok, v_var, h13, rs_of_some, Rs.bind_ok, q_eq_int, Rs.bind_ok, q_ne_bl]
  refine ⟨?_, y⟩
  have : (s + i == s + j) = ((i : Int) == (j : Int)) := by
    rw [Bool.eq_iff_iff, beq_iff_eq, beq_iff_eq]
    omega
  rw [this, beq_self_eq_true]
  rfl
theorem s_apart_end (E : End ms ws) (hs : s + 64 ≤ many ms ws) {i j : Nat} (hi : i < 64) (hj : j < 64) (h5 : sl.getD 5 none = some (.ref n)) (h12 : sl.getD 12 none = some (.int (i : Nat))) (h13 : sl.getD 13 none = some (.int (j : Nat))) (en : h[n]? = some (.lst l)) (tk : Talks ms ws s l h) :
    sat (ev P (Fn P 19) (.cmp .eq (.cmp .eq (.fn "apart" [(.ix (.var 5) (.var 12)), (.ix (.var 5) (.var 13))]) (.tup [])) (.cmp .eq (.var 12) (.var 13))) sl h) fun v g => v = .bl true ∧ Ex h g := by
  obtain ⟨t, et, ta⟩ := tk.at hi
  obtain ⟨u, eu, ua⟩ := tk.at hj
  rw [v_cmp, sat_bind, v_cmp, sat_bind, v_fn, q_evs_ix, v_ix, v_var, h5, rs_of_some, Rs.bind_ok, v_var, h12, rs_of_some, Rs.bind_ok, q_ix_ref _ en, atI_nat et, rs_of_some, Rs.bind_ok, q_evs_ix, v_ix, v_var, h5, rs_of_some, Rs.bind_ok, v_var, h13, rs_of_some, Rs.bind_ok, q_ix_ref _ en, atI_nat eu, rs_of_some, Rs.bind_ok, q_evs_nil, Rs.bind_ok, Rs.bind_ok, Rs.bind_ok]
  have V1 : ValT ⟨ms, ws, plainRules ms ws (s + i)⟩ := E.v.plain _
  have V2 : ValT ⟨ms, ws, plainRules ms ws (s + j)⟩ := E.v.plain _
  refine sat_mono (s_apart 14 V1 V2 ta ua) fun v g ⟨e, y⟩ => ?_
  subst e
  have n1 : number ⟨ms, ws, plainRules ms ws (s + i)⟩ = s + i := number_plain E.v.v (by omega)
  have n2 : number ⟨ms, ws, plainRules ms ws (s + j)⟩ = s + j := number_plain E.v.v (by omega)
  have pe := parts_isEmpty V1.v V2.v
  rw [n1, n2] at pe
  have pm := parts_mem ⟨ms, ws, plainRules ms ws (s + i)⟩ ⟨ms, ws, plainRules ms ws (s + j)⟩
  rw [v_tup, q_evs_nil, Rs.bind_ok, if_pos (show ([] : List PV).length ≤ sizeL from Nat.zero_le _), Rs.bind_ok, q_eq_unit E.v pm, pe, sat_ok, v_cmp, v_var, h12, rs_of_some, Rs.bind_ok, v_var, h13, rs_of_some, Rs.bind_ok, q_eq_int, Rs.bind_ok, q_eq_bl]
  refine ⟨?_, y⟩
  have : (s + i == s + j) = ((i : Int) == (j : Int)) := by
    rw [Bool.eq_iff_iff, beq_iff_eq, beq_iff_eq]
    omega
  rw [this, beq_self_eq_true]
end
end K89
end

section
set_option Elab.async false
set_option linter.all false
set_option maxRecDepth 100000
set_option maxHeartbeats 4000000
namespace K89
open PySem L2 R
theorem or_ff {F : FF} {a b : E} {sl : Sl} {h : PH} (s : sat (ev P F a sl h) fun v g => v = .bl false ∧ Ex h g) (s2 : ∀ g, Ex h g → sat (ev P F b sl g) fun v g' => v = .bl false ∧ Ex g g') : sat (ev P F (.or a b) sl h) fun v g => v = .bl false ∧ Ex h g := or_l s s2
theorem s_tail {p : Nat} {x0 x2 x3 x4 x5 x6 x7 x8 x9 x10 x11 x12 x13 x14 x15 x16 x17 x18 : Option PV} {h : PH} {D : Po} (a : Pen h p) (hD : ∀ g, D.rt (.bl true) g) :
    osat (exs P (Fn P 19) (d_law.body.drop 2) [x0, some (.ref p), x2, x3, x4, x5, x6, x7, x8, x9, x10, x11, x12, x13, x14, x15, x16, x17, x18] h) D := by
  simp only [d_law, List.drop_succ_cons, List.drop_zero]
  -- moods, words
  refine exs_cons (unp_sat ?_)
  rw [v_fn, sat_bind]
  refine eq_sat (v := [.ref p, .ref (h.length + 6)]) (h := h ++ [.lst [.str "m"], .lst [], .lst [.str "m"], .lst [], .lst [.str "x"], .lst [.str "w"], .lst [.tup [.ref h.length, .ref (h.length + 1)], .tup [.ref (h.length + 2), .ref (h.length + 3)], .tup [.ref (h.length + 4), .ref (h.length + 5)]]]) (by simp [newF]) ?_
  refine s_pick 17 (l := [.tup [.ref h.length, .ref (h.length + 1)], .tup [.ref (h.length + 2), .ref (h.length + 3)], .tup [.ref (h.length + 4), .ref (h.length + 5)]]) (a.px (Px.app _ _)) (.inr ⟨_, rfl, by simp⟩) nop_two (by simp) (by simp) fun x hx h2 y2 => ?_
  have hx : ∃ ms ws A B, x = .tup [.ref A, .ref B] ∧ h2[A]? = some (.lst (ms.map .str)) ∧ h2[B]? = some (.lst (ws.map .str)) ∧ End ms ws := by
    have gm : h2[h.length]? = some (.lst (m1.map .str)) := y2.lst (by simp; rfl) nop_strs
    have g1 : h2[h.length + 1]? = some (.lst (([] : List Str).map .str)) := y2.lst (by simp) nop_strs
    have g2 : h2[h.length + 2]? = some (.lst (m1.map .str)) := y2.lst (by simp; rfl) nop_strs
    have g3 : h2[h.length + 3]? = some (.lst (([] : List Str).map .str)) := y2.lst (by simp) nop_strs
    have g4 : h2[h.length + 4]? = some (.lst (mX.map .str)) := y2.lst (by simp; rfl) nop_strs
    have g5 : h2[h.length + 5]? = some (.lst (wW.map .str)) := y2.lst (by simp; rfl) nop_strs
    simp only [List.mem_cons, List.not_mem_nil, or_false] at hx
    rcases hx with rfl | rfl | rfl
    · exact ⟨_, _, _, _, rfl, gm, g1, end_m⟩
    · exact ⟨_, _, _, _, rfl, g2, g3, end_m⟩
    · exact ⟨_, _, _, _, rfl, g4, g5, end_x⟩
  obtain ⟨ms, ws, A, B, rfl, eA, eB, En⟩ := hx
  have a2 := a.px ((Px.app _ _).trans y2)
  clear a y2
  refine ⟨_, rfl, ?_⟩
  simp only [setAll, List.zip_cons_cons, List.zip_nil_right, List.foldl_cons, List.foldl_nil, List.set_cons_succ, List.set_cons_zero]
  have elo := En.lo
  have ehi := En.hi
  -- many
  refine exs_cons (set_sat (ev_call2 rfl rfl ?_))
  refine sat_mono (s_how_many 14 En.v (.inr ⟨_, rfl, eA⟩) (.inr ⟨_, rfl, eB⟩)) fun v h3 ⟨e, y3⟩ => ?_
  subst e
  have a3 := a2.px (.of y3)
  have eA := y3 _ _ eA
  have eB := y3 _ _ eB
  clear a2 y3
  simp only [List.set_cons_succ, List.set_cons_zero]
  -- start
  generalize hM : many ms ws = M at *
  refine exs_cons (set_sat ?_)
  generalize hm1 : (if (M : Int) - 64 > (1 : Int) then ((M : Int) - 64) else 1) = w
  have w1 : 1 ≤ w := by rw [← hm1]; split <;> omega
  have w2 : w = 1 ∨ w = (M : Int) - 64 := by rw [← hm1]; split <;> simp
  refine p_drawI (n := 18) rfl rfl a3 (eq_sat (v := .int w) (h := h3) (by simp [doBlt, on2, bMax, ← hm1]) ⟨Px.refl _, w, rfl, sm_big (by omega), fun s h4 y4 hs _ => ?_⟩)
  have hs := hs w1
  have sM : s + 64 ≤ M := by omega
  have a4 := a3.px y4
  have eA := y4.lst eA nop_strs
  have eB := y4.lst eB nop_strs
  clear a3 y4
  simp only [List.set_cons_succ, List.set_cons_zero]
  -- some
  refine exs_cons ?_
  generalize hE : (E.itR2 _ _) = e
  refine set_sat ?_
  refine sat_mono (s_some (s := s) En (by subst hE; exact ev_rg (by omega) rfl) (by rw [hM]; exact sM) rfl rfl (by simp) eA eB) fun v h5 ⟨n, l, e, en, tk, y5⟩ => ?_
  subst e
  have a5 := a4.px (.of y5)
  clear a4 y5 eA eB
  simp only [List.set_cons_succ, List.set_cons_zero]
  -- at, spot
  refine exs_cons (par_sat ?_)
  rw [evs_cons rfl, sat_bind]
  refine p_draw64 (n := 18) rfl a5 fun i hi h6 y6 => ?_
  have a6 := a5.px y6
  have en := y6.lst en tk.nop
  have tk := tk.px y6
  clear a5 y6
  rw [evs_cons rfl, sat_bind, sat_bind]
  refine p_draw64 (n := 18) rfl a6 fun j hj h7 y7 => ?_
  have en := y7.lst en tk.nop
  have tk := tk.px y7
  clear a6 y7
  simp only [q_evs_nil, Rs.bind_ok, sat_ok]
  refine ⟨rfl, ?_⟩
  simp only [setAll, List.zip_cons_cons, List.zip_nil_right, List.foldl_cons, List.foldl_nil, List.set_cons_succ, List.set_cons_zero]
  refine exs_cons (ife_f (sat_mono (or_ff (s_nums En (by rw [hM]; exact sM) rfl rfl (by simp) en tk) fun g y => s_alike En (by rw [hM]; exact sM) hi hj rfl rfl rfl (y _ _ en) (tk.px (.of y))) fun v h8 ⟨e, y8⟩ => ?_))
  subst e
  refine ⟨rfl, ?_⟩
  have en := y8 _ _ en
  have tk := tk.px (.of y8)
  simp only [exs, osat_nx, osat_bind]
  refine ret_sat ?_
  rw [v_and, sat_bind]
  refine sat_mono (s_texts En (by rw [hM]; exact sM) rfl (by simp) en tk) fun v h9 ⟨e, y9⟩ => ?_
  subst e
  refine (?_ : sat (ev P (Fn P 19) (.cmp .eq (.cmp .eq (.fn "apart" [(.ix (.var 5) (.var 12)), (.ix (.var 5) (.var 13))]) (.tup [])) (.cmp .eq (.var 12) (.var 13))) _ h9) _)
  refine sat_mono (s_apart_end En (by rw [hM]; exact sM) hi hj rfl rfl rfl (y9 _ _ en) (tk.px (.of y9))) fun v h10 ⟨e, y10⟩ => ?_
  subst e
  exact hD _
theorem e_law : P.fn sLaw = some d_law := by rfl
def LawI (p : Nat) (sv : PV) (s : Sl) (h' : PH) : Prop := Pen h' p ∧ ∃ x2 x3 x4 x5 x6 x7 x8 x9 x10 x11 x12 x13 x14 x15 x16 x17 x18, s = [some sv, some (.ref p), x2, x3, x4, x5, x6, x7, x8, x9, x10, x11, x12, x13, x14, x15, x16, x17, x18]
theorem holds (ns : List Int) (hn : ns.length ≤ 63) : R.sat (R.Fn P 20 R.sLaw [.fro (ns.map .int)] []) fun v _ => v = .bl true := by
  refine sat_fn (n := 19) e_law rfl ?_
  have hb : d_law.body = d_law.body.head (by simp [d_law]) :: (d_law.body.drop 1).head (by simp [d_law]) :: d_law.body.drop 2 := rfl
  rw [hb]
  simp only [List.map_cons, List.map_nil, List.length_cons, List.length_nil, List.cons_append, List.nil_append]
  simp only [show d_law.ns = 19 from rfl, List.replicate, Nat.reduceAdd, Nat.reduceSub]
  refine exs_cons (?_ : osat (ex P (Fn P 19) (.set 1 (.fn "_law_pen" [(.var 0)])) _ _) _)
  refine set_sat (ev_call1 rfl ?_)
  refine sat_mono (s_pen 18 ns) fun v h1 ⟨p, e, a⟩ => ?_
  subst e
  simp only [List.set_cons_succ, List.set_cons_zero]
  refine exs_cons ?_
  simp only [d_law, List.drop_succ_cons, List.drop_zero, List.head_cons]
  refine forR ?_
  refine eq_sat (v := .int 10) (h := h1) (by simp) ⟨10, rfl, by decide, ?_⟩
  refine for_all (l := (rngL 0 10).map .one) (Inv := fun _ => LawI p (.fro (ns.map .int))) ⟨a, _, _, _, _, _, _, _, _, _, _, _, _, _, _, _, _, _, rfl⟩ (fun pre s h' _ => yields_its _ _) ?_ ?_
  · rintro pre x post s h hl ⟨a, x2, x3, x4, x5, x6, x7, x8, x9, x10, x11, x12, x13, x14, x15, x16, x17, x18, rfl⟩
    have hxo : ∃ j : Int, x = .one (.int j) := by
      have : x ∈ (rngL 0 10).map Itm.one := by rw [hl]; simp
      simp only [rngL, List.map_map, List.mem_map] at this
      obtain ⟨v, _, e⟩ := this
      exact ⟨_, e.symm⟩
    obtain ⟨j, rfl⟩ := hxo
    refine ⟨_, rfl, ?_⟩
    simp only [List.set_cons_succ, List.set_cons_zero]
    refine exs_cons (set_sat (ev_call1 rfl ?_))
    refine sat_mono (s_talk 15 a) fun v h2 dr => ?_
    obtain ⟨y2, d, T, rfl, pl, V, z40⟩ := dr
    have a2 := a.px y2
    clear a y2
    simp only [List.set_cons_succ, List.set_cons_zero]
    refine exs_cons (set_sat (ev_call2 rfl rfl ?_))
    refine sat_mono (s_otherwise 15 a2 pl V z40) fun v h3 dr => ?_
    obtain ⟨y3, d2, rs2, rfl, pl2, V2, _⟩ := dr
    have a3 := a2.px y3
    have pl := pl.px y3
    clear a2 y3
    obtain ⟨ms, ws, r1⟩ := T
    dsimp only at pl2 V2
    simp only [List.set_cons_succ, List.set_cons_zero]
    refine exs_cons (par_sat ?_)
    rw [evs_cons rfl, sat_bind]
    refine ev_call1 rfl (sat_mono (s_made 14 pl V) fun v h4 ⟨t, e, tt, y4⟩ => ?_)
    subst e
    rw [evs_cons rfl, sat_bind, sat_bind]
    refine ev_call1 rfl (sat_mono (s_made 14 (pl2.ex y4) V2) fun v h5 ⟨u, e, uu, y5⟩ => ?_)
    subst e
    have a5 := a3.px (.of (y4.trans y5))
    have pl := pl.ex (y4.trans y5)
    have pl2 := pl2.ex (y4.trans y5)
    have tt := tt.ex y5
    clear a3 y4 y5
    simp only [q_evs_nil, Rs.bind_ok, sat_ok]
    refine ⟨rfl, ?_⟩
    simp only [setAll, List.zip_cons_cons, List.zip_nil_right, List.foldl_cons, List.foldl_nil, List.set_cons_succ, List.set_cons_zero]
    refine exs_cons (set_sat ?_)
    refine sat_mono (s_due (n := 17) V V2 pl pl2) fun v h6 ⟨e, y6⟩ => ?_
    subst e
    have a6 := a5.px (.of y6)
    have tt := tt.ex y6
    have uu := uu.ex y6
    clear a5 y6 pl pl2
    simp only [List.set_cons_succ, List.set_cons_zero]
    refine exs_cons (ife_f (sat_mono (s_cond1 V V2 tt uu rfl rfl rfl) fun v h7 ⟨e, y7⟩ => ?_))
    subst e
    refine ⟨rfl, ?_⟩
    have a7 := a6.px (.of y7)
    have tt := tt.ex y7
    have uu := uu.ex y7
    clear a6 y7
    refine (?_ : osat (exs P (Fn P 19) (_ :: _) _ h7) _)
    refine exs_cons (set_sat (ev_call1 rfl ?_))
    refine sat_mono (s_plain_talk 13 V tt) fun v h8 ⟨w, e, ww, y8⟩ => ?_
    subst e
    have a8 := a7.px (.of y8)
    have tt := tt.ex y8
    have uu := uu.ex y8
    clear a7 y8
    simp only [List.set_cons_succ, List.set_cons_zero]
    refine exs_cons (ife_f (sat_mono (s_cond2 V V2 tt uu ww rfl rfl rfl rfl) fun v h9 ⟨e, y9⟩ => ?_))
    subst e
    refine ⟨rfl, ?_⟩
    simp only [exs, osat_nx]
    exact ⟨a8.px (.of y9), _, _, _, _, _, _, _, _, _, _, _, _, _, _, _, _, _, rfl⟩
  · rintro s h ⟨a, x2, x3, x4, x5, x6, x7, x8, x9, x10, x11, x12, x13, x14, x15, x16, x17, x18, rfl⟩
    exact s_tail a fun g => rfl
end K89
end

section
set_option Elab.async false
set_option linter.all false
set_option maxRecDepth 100000
set_option maxHeartbeats 0
open PySem PySem.W PySem.Calls PyProof.Rows
theorem PySem.Challenge.cw_talkbook_k89_talks_alike_holds : PySem.Challenge.rw_talkbook_k89_talks_alike.Holds := by
  w_on; o_law
  refine HandSHeadRun.head_any (r := OpenLaw.row PySem.Challenge.rw_talkbook_k89_talks_alike) (q := K89.qv) (H := K89.hk) (ob := K89.ob) (M := 20000) (loose := K89.loose) (d := HandSHeadRun.topDef (OpenLaw.row PySem.Challenge.rw_talkbook_k89_talks_alike).prog 66) (kwd := []) K89.ob_eq
    (by kernel_rfl) (fun s => by kernel_rfl) K89.run (by kernel_rfl) (by kernel_rfl) (by kernel_rfl) (by rfl) (by first | assumption | decide +kernel) (by decide +kernel) ⟨rfl, rfl, rfl, rfl, rfl, by decide +kernel⟩ ?hw ?hc
  case hw => w_witness2
  case hc => exact R.law_walk (I := K89.I) (r := ⟨K89.d_law, K89.t_law, ("law", none)⟩) K89.txt (n := 20) (x := "script") rfl (by decide) ⟨rfl, by decide, by decide⟩ (by kernel_rfl) (by kernel_rfl) (by kernel_rfl) (by kernel_rfl) K89.holds
end
