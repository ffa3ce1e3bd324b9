import PyProof.Rows.All
import HandS.ForExc
import HandS.Comp
import HandS.Text
import HandS.IsInst
import HandS.Zip
import HandS.Defaults
import HandS.HeadHook2
import HandS.Deep
import HandS.Iter
import HandS.ExcOwn
import HandS.TryMany
import HandS.ExcIs
import HandS.HeadEnd
import HandS.Head0
import HandS.Head1
import HandS.Head2
import PySem.Challenge.RW_surehall_k08_refuter
set_option Elab.async false
set_option linter.all false
set_option maxRecDepth 100000
set_option maxHeartbeats 4000000
/- PL: a layer of value readings over HandS. A def is told by a mirror over PyData; lists that stay are frozen. -/
namespace PL
open PySem PySem.Spec PyProof.Rows L2

/-! ### data in the heap that nothing turns -/
mutual
inductive Rp (K : PySem.W.Frag) (H : Hp) : V → PyData → Prop
  | non : Rp K H .non .none
  | bl (b : Bool) : Rp K H (.bl b) (.bool b)
  | int (i : Int) : Rp K H (.int i) (.int i)
  | str (x : Str) : Rp K H (.str x) (.str x)
  | lst {a : Addr} {o : Obj} {xs : List V} {ds : List PyData} : H a = some (.frz o (.lst xs)) → Rps K H xs ds → Rp K H (.ref a) (.list ds)
  | tup {a : Addr} {xs : List V} {ds : List PyData} : SqT K H a xs → Rps K H xs ds → Rp K H (.ref a) (.tuple ds)
inductive Rps (K : PySem.W.Frag) (H : Hp) : List V → List PyData → Prop
  | nil : Rps K H [] []
  | cons {v : V} {vs : List V} {d : PyData} {ds : List PyData} : Rp K H v d → Rps K H vs ds → Rps K H (v :: vs) (d :: ds)
end
/-- tuples and what is frozen stand as they stood -/
structure Firm (H H' : Hp) : Prop where
  tup : ∀ b xs, H b = some (.tup xs) → H' b = some (.tup xs)
  frz : ∀ b o u, H b = some (.frz o u) → H' b = some (.frz o u)
theorem Firm.refl (H : Hp) : Firm H H := ⟨fun _ _ h => h, fun _ _ _ h => h⟩
theorem Firm.trans {H H1 H2 : Hp} (a : Firm H H1) (b : Firm H1 H2) : Firm H H2 := ⟨fun c xs h => b.tup c xs (a.tup c xs h), fun c o u h => b.frz c o u (a.frz c o u h)⟩
theorem firm {H H' : Hp} (s : Same H H') : Firm H H' := ⟨fun b _ h => s b _ h, fun b _ _ h => s b _ h⟩
theorem Firm.sqt {K : PySem.W.Frag} {H H' : Hp} (f : Firm H H') {a : Addr} {xs : List V} (h : SqT K H a xs) : SqT K H' a xs := by
  rcases h with (h | ⟨o, h⟩) | h
  · exact .inl (.inl (f.tup _ _ h))
  · exact .inl (.inr ⟨o, f.frz _ _ _ h⟩)
  · exact .inr h
mutual
theorem Rp.mono {K : PySem.W.Frag} {H H' : Hp} (f : Firm H H') : ∀ {d : PyData} {v : V}, Rp K H v d → Rp K H' v d
  | .none, _, h => by cases h; exact .non
  | .bool b, _, h => by cases h; exact .bl b
  | .int i, _, h => by cases h; exact .int i
  | .str x, _, h => by cases h; exact .str x
  | .list ds, _, h => by cases h with | lst e r => exact .lst (f.frz _ _ _ e) (Rps.mono f r)
  | .tuple ds, _, h => by cases h with | tup e r => exact .tup (f.sqt e) (Rps.mono f r)
  | .dict _, _, h => by cases h
theorem Rps.mono {K : PySem.W.Frag} {H H' : Hp} (f : Firm H H') : ∀ {ds : List PyData} {vs : List V}, Rps K H vs ds → Rps K H' vs ds
  | [], _, h => by cases h; exact .nil
  | _ :: _, _, h => by cases h with | cons a b => exact .cons (Rp.mono f a) (Rps.mono f b)
end
section
variable {K : PySem.W.Frag} {H : Hp}
theorem Rps.length : ∀ {vs : List V} {ds : List PyData}, Rps K H vs ds → vs.length = ds.length
  | _, _, .nil => rfl
  | _, _, .cons _ r => congrArg Nat.succ r.length
theorem Rps.append : ∀ {vs ws : List V} {ds es : List PyData}, Rps K H vs ds → Rps K H ws es → Rps K H (vs ++ ws) (ds ++ es)
  | _, _, _, _, .nil, s => s
  | _, _, _, _, .cons a r, s => .cons a (r.append s)
theorem Rps.one {v : V} {d : PyData} (h : Rp K H v d) : Rps K H [v] [d] := .cons h .nil
theorem Rps.get : ∀ {vs : List V} {ds : List PyData} {i : Nat} {d : PyData}, Rps K H vs ds → ds[i]? = some d → ∃ v, vs[i]? = some v ∧ Rp K H v d
  | _, _, _, _, .nil, e => by simp at e
  | _, _, 0, _, .cons a _, e => by simp at e; subst e; exact ⟨_, rfl, a⟩
  | _, _, i + 1, d, .cons _ r, e => by
    obtain ⟨v, h1, h2⟩ := Rps.get (i := i) (d := d) r (by simpa using e)
    exact ⟨v, by simpa using h1, h2⟩
theorem Rps.get' : ∀ {vs : List V} {ds : List PyData} {i : Nat} {v : V}, Rps K H vs ds → vs[i]? = some v → ∃ d, ds[i]? = some d ∧ Rp K H v d
  | _, _, _, _, .nil, e => by simp at e
  | _, _, 0, _, .cons a _, e => by simp at e; subst e; exact ⟨_, rfl, a⟩
  | _, _, i + 1, v, .cons _ r, e => by
    obtain ⟨d, h1, h2⟩ := Rps.get' (i := i) (v := v) r (by simpa using e)
    exact ⟨d, by simpa using h1, h2⟩
theorem Rps.take : ∀ {vs : List V} {ds : List PyData} (n : Nat), Rps K H vs ds → Rps K H (vs.take n) (ds.take n)
  | _, _, 0, _ => .nil
  | _, _, _ + 1, .nil => .nil
  | _, _, n + 1, .cons a r => .cons a (Rps.take n r)
theorem Rps.drop : ∀ {vs : List V} {ds : List PyData} (n : Nat), Rps K H vs ds → Rps K H (vs.drop n) (ds.drop n)
  | _, _, 0, r => r
  | _, _, _ + 1, .nil => .nil
  | _, _, n + 1, .cons _ r => Rps.drop n r
theorem Rps.dropLast {vs : List V} {ds : List PyData} (h : Rps K H vs ds) : Rps K H vs.dropLast ds.dropLast := by
  rw [List.dropLast_eq_take, List.dropLast_eq_take, h.length]
  exact h.take _
theorem Rps.insert : ∀ {vs : List V} {ds : List PyData} {v : V} {d : PyData} (n : Nat), Rps K H vs ds → Rp K H v d → Rps K H (vs.take n ++ v :: vs.drop n) (ds.take n ++ d :: ds.drop n) :=
  fun n r h => (r.take n).append (.cons h (r.drop n))
mutual
theorem Rp.dp : ∀ {d : PyData} {v : V}, Rp K H v d → Dp K H v d
  | .none, _, h => by cases h; exact .non
  | .bool b, _, h => by cases h; exact .bl b
  | .int i, _, h => by cases h; exact .int i
  | .str x, _, h => by cases h; exact .str x
  | .list ds, _, h => by cases h with | lst e r => exact .lst (.inl (.inr ⟨_, e⟩)) (Rps.dp r)
  | .tuple ds, _, h => by cases h with | tup e r => exact .tup e (Rps.dp r)
  | .dict _, _, h => by cases h
theorem Rps.dp : ∀ {ds : List PyData} {vs : List V}, Rps K H vs ds → DpAll K H vs ds
  | [], _, h => by cases h; exact .nil
  | _ :: _, _, h => by cases h with | cons a b => exact .cons (Rp.dp a) (Rps.dp b)
end
end

/-! ### data that may be read now: that, or a list of it -/
inductive RpA (K : PySem.W.Frag) (H : Hp) : V → PyData → Prop
  | per {v : V} {d : PyData} : Rp K H v d → RpA K H v d
  | seq {a : Addr} {xs : List V} {ds : List PyData} : SqL K H a xs → Rps K H xs ds → RpA K H (.ref a) (.list ds)
theorem RpA.mono {K : PySem.W.Frag} {H H' : Hp} (s : Same H H') {v : V} {d : PyData} (h : RpA K H v d) : RpA K H' v d := by
  cases h with
  | per h => exact .per (h.mono (firm s))
  | seq e r => exact .seq (s.seq e) (r.mono (firm s))
section
variable {K : PySem.W.Frag} {H : Hp} {v : V}
theorem RpA.int {i : Int} (h : RpA K H v (.int i)) : v = .int i := by cases h with | per h => cases h; rfl
theorem RpA.bool {b : Bool} (h : RpA K H v (.bool b)) : v = .bl b := by cases h with | per h => cases h; rfl
theorem RpA.str {x : Str} (h : RpA K H v (.str x)) : v = .str x := by cases h with | per h => cases h; rfl
theorem RpA.none (h : RpA K H v .none) : v = .non := by cases h with | per h => cases h; rfl
theorem RpA.tuple {ds : List PyData} (h : RpA K H v (.tuple ds)) : ∃ a xs, v = .ref a ∧ SqT K H a xs ∧ Rps K H xs ds := by
  cases h with | per h => cases h with | tup e r => exact ⟨_, _, rfl, e, r⟩
theorem RpA.list {ds : List PyData} (h : RpA K H v (.list ds)) : ∃ a xs, v = .ref a ∧ SqL K H a xs ∧ Rps K H xs ds := by
  cases h with
  | per h => cases h with | lst e r => exact ⟨_, _, rfl, .inl (.inr ⟨_, e⟩), r⟩
  | seq e r => exact ⟨_, _, rfl, e, r⟩
theorem RpA.dp {d : PyData} (h : RpA K H v d) : Dp K H v d := by
  cases h with
  | per h => exact h.dp
  | seq e r => exact .lst e r.dp
theorem RpA.nodict {kvs} (h : RpA K H v (.dict kvs)) : False := by cases h with | per h => cases h
end

/-! ### what is known of a value that came: it stays; or it is a new list; or it may be read now -/
inductive Kd where
  | per | new | fre | any
def RK (K : PySem.W.Frag) : Kd → Hp → Hp → V → PyData → Prop
  | .per, _, H', v, d => Rp K H' v d
  | .new, H, H', v, d => ∃ a xs ds, v = .ref a ∧ d = .list ds ∧ H a = none ∧ H' a = some (.lst xs) ∧ Rps K H' xs ds
  | .fre, H, H', v, d => Rp K H' v d ∨ ∃ a xs ds, v = .ref a ∧ d = .list ds ∧ H a = none ∧ H' a = some (.lst xs) ∧ Rps K H' xs ds
  | .any, _, H', v, d => RpA K H' v d
theorem RK.toAny {K : PySem.W.Frag} {k : Kd} {H H' : Hp} {v : V} {d : PyData} (h : RK K k H H' v d) : RpA K H' v d := by
  cases k with
  | per => exact .per h
  | new =>
    obtain ⟨a, xs, ds, rfl, rfl, _, e, r⟩ := h
    exact .seq (.of e) r
  | fre =>
    rcases h with h | ⟨a, xs, ds, rfl, rfl, _, e, r⟩
    · exact .per h
    · exact .seq (.of e) r
  | any => exact h
theorem RK.back {K : PySem.W.Frag} {k : Kd} {H0 H H' : Hp} {v : V} {d : PyData} (s : Same H0 H) (h : RK K k H H' v d) : RK K k H0 H' v d := by
  cases k with
  | per => exact h
  | new =>
    obtain ⟨a, xs, ds, e1, e2, n, e, r⟩ := h
    exact ⟨a, xs, ds, e1, e2, s.free n, e, r⟩
  | fre =>
    rcases h with h | ⟨a, xs, ds, e1, e2, n, e, r⟩
    · exact .inl h
    · exact .inr ⟨a, xs, ds, e1, e2, s.free n, e, r⟩
  | any => exact h

/-! ### slots -/
/-- a thing that is a slot's own -/
inductive Fl where
  | d (d : PyData) | l (ds : List PyData)
inductive Ob where
  | lst (ds : List PyData)
  | ins (C : Str) (fs : List (Str × Fl))
inductive Sl where
  | nil | d (d : PyData) | b (ds : List PyData) | o (ob : Ob) | r (ob : Ob) | x (c : Str)
abbrev Rho := List Sl
/-- a written list -/
def KL (K : PySem.W.Frag) (a : Addr) (xs : List V) : Prop := ∃ (o : Obj) (its : Array Value) (n : Nat), K.lookup a = some o ∧ o.cls = .type "list" ∧ o.dict = none ∧ o.data = .seq its n ∧ its.size ≤ sizeLine ∧ Vals xs its.toList
theorem sql_iff {K : PySem.W.Frag} {H : Hp} {a : Addr} {xs : List V} : SqL K H a xs ↔ Rd H a (.lst xs) ∨ KL K a xs := Iff.rfl
/-- an instance's fields: fp what they stand at -/
inductive FlsRep (K : PySem.W.Frag) (H : Hp) : List (Str × Fl) → List (Str × V) → (Addr → Prop) → Prop
  | nil : FlsRep K H [] [] (fun _ => False)
  | d {n : Str} {d : PyData} {v : V} {fs vs fp} : Rp K H v d → FlsRep K H fs vs fp → FlsRep K H ((n, .d d) :: fs) ((n, v) :: vs) fp
  | l {n : Str} {ds : List PyData} {xs : List V} {a : Addr} {fs vs fp} : H a = some (.lst xs) → Rps K H xs ds → ¬ fp a → FlsRep K H fs vs fp → FlsRep K H ((n, .l ds) :: fs) ((n, .ref a) :: vs) (fun b => b = a ∨ fp b)
/-- x stands for the thing, all of it at fp -/
inductive OwnRep (K : PySem.W.Frag) (H : Hp) : (Addr → Prop) → Addr → Ob → Prop
  | lst {x : Addr} {xs : List V} {ds : List PyData} : H x = some (.lst xs) → Rps K H xs ds → OwnRep K H (fun b => b = x) x (.lst ds)
  | ins {x dx : Addr} {C : Str} {fs : List (Str × Fl)} {vs : List (Str × V)} {fp : Addr → Prop} : H x = some (.ins (He.ga K C) dx vs) → H dx = some (.own x) → FlsRep K H fs vs fp → OwnRep K H (fun b => b = x ∨ b = dx ∨ fp b) x (.ins C fs)
/-- an object that may turn -/
def Soft : HO → Prop
  | .tup _ => False
  | .frz _ _ => False
  | _ => True
section
variable {K : PySem.W.Frag} {H H' : Hp} {fp : Addr → Prop}
theorem FlsRep.mono {fs : List (Str × Fl)} {vs : List (Str × V)} (h : FlsRep K H fs vs fp) (f : Firm H H') (k : ∀ b o, fp b → H b = some o → H' b = some o) : FlsRep K H' fs vs fp := by
  induction h with
  | nil => exact .nil
  | d r _ ih => exact .d (r.mono f) (ih k)
  | l e r n _ ih => exact .l (k _ _ (.inl rfl) e) (r.mono f) n (ih fun b o hb => k b o (.inr hb))
theorem FlsRep.soft {fs : List (Str × Fl)} {vs : List (Str × V)} (h : FlsRep K H fs vs fp) : ∀ b, fp b → ∃ o, H b = some o ∧ Soft o := by
  induction h with
  | nil => exact fun _ z => z.elim
  | d _ _ ih => exact ih
  | l e _ _ _ ih =>
    intro b hb
    rcases hb with z | z
    · subst z; exact ⟨_, e, trivial⟩
    · exact ih b z
theorem OwnRep.mono {x : Addr} {ob : Ob} (h : OwnRep K H fp x ob) (f : Firm H H') (k : ∀ b o, fp b → H b = some o → H' b = some o) : OwnRep K H' fp x ob := by
  cases h with
  | lst e r => exact .lst (k _ _ rfl e) (r.mono f)
  | ins e e2 r => exact .ins (k _ _ (.inl rfl) e) (k _ _ (.inr (.inl rfl)) e2) (r.mono f fun b o hb => k b o (.inr (.inr hb)))
theorem OwnRep.soft {x : Addr} {ob : Ob} (h : OwnRep K H fp x ob) : ∀ b, fp b → ∃ o, H b = some o ∧ Soft o := by
  cases h with
  | lst e r =>
    intro b hb
    have z : b = x := hb
    subst z
    exact ⟨_, e, trivial⟩
  | ins e e2 r =>
    intro b hb
    rcases hb with z | z | z
    · subst z; exact ⟨_, e, trivial⟩
    · subst z; exact ⟨_, e2, trivial⟩
    · exact r.soft b z
end
/-- a slot's thing; all: what all the slots' own things stand at; fp: this one's -/
inductive SlOk (K : PySem.W.Frag) (H : Hp) (all fp : Addr → Prop) : Option (Option V) → Sl → Prop
  | nil {v : Option (Option V)} : (∀ b, ¬ fp b) → SlOk K H all fp v .nil
  | d {v : V} {d : PyData} : Rp K H v d → (∀ b, ¬ fp b) → SlOk K H all fp (some (some v)) (.d d)
  | b {a : Addr} {xs : List V} {ds : List PyData} : (Rd H a (.lst xs) ∧ ¬ all a) ∨ KL K a xs → Rps K H xs ds → (∀ b, ¬ fp b) → SlOk K H all fp (some (some (.ref a))) (.b ds)
  | o {x : Addr} {ob : Ob} : OwnRep K H fp x ob → SlOk K H all fp (some (some (.ref x))) (.o ob)
  | r {x : Addr} {ob : Ob} {f2 : Addr → Prop} : OwnRep K H f2 x ob → (∀ b, f2 b → ¬ all b) → (∀ b, ¬ fp b) → SlOk K H all fp (some (some (.ref x))) (.r ob)
  | x {v : Option (Option V)} {c : Str} : (∀ b, ¬ fp b) → SlOk K H all fp v (.x c)
/-- what is caught stands in its slot -/
abbrev XO := Nat → Option (Addr × Obj)
def XoOk (K : PySem.W.Frag) (xo : XO) (σ : L2.St) (ρ : Rho) : Prop := ∀ i c, ρ[i]? = some (.x c) → ∃ a oe, xo i = some (a, oe) ∧ σ[i]? = some (some (.ref a)) ∧ Zc (.ref (He.ga K c)) none oe ∧ ∃ vs, oe.data = .fields vs
theorem XoOk.set {K : PySem.W.Frag} {xo : XO} {σ : L2.St} {ρ : Rho} (h : XoOk K xo σ ρ) (i : Nat) (v : Option V) {s : Sl} (hs : ∀ c, s ≠ .x c) : XoOk K xo (σ.set i v) (ρ.set i s) := fun j c q => by
  by_cases e : i = j
  · subst e
    by_cases hl : i < ρ.length
    · rw [List.getElem?_set_self hl] at q; cases q; exact absurd rfl (hs c)
    · rw [List.getElem?_eq_none (by simpa using hl)] at q; cases q
  · rw [List.getElem?_set_ne e] at q ⊢
    exact h j c q
theorem XoOk.setR {K : PySem.W.Frag} {xo : XO} {σ : L2.St} {ρ : Rho} (h : XoOk K xo σ ρ) (i : Nat) {s : Sl} (hs : ∀ c, s ≠ .x c) : XoOk K xo σ (ρ.set i s) := fun j c q => by
  by_cases e : i = j
  · subst e
    by_cases hl : i < ρ.length
    · rw [List.getElem?_set_self hl] at q; cases q; exact absurd rfl (hs c)
    · rw [List.getElem?_eq_none (by simpa using hl)] at q; cases q
  · rw [List.getElem?_set_ne e] at q
    exact h j c q
/-- a def's entry: its heap, what its callers' own things handed in stand at, which slots they are in -/
structure Bd where
  H0 : Hp
  F0 : Addr → Prop
  io : Nat → Option Addr
  xo : XO := fun _ => none
structure EnvOk (K : PySem.W.Frag) (B : Bd) (H : Hp) (σ : L2.St) (ρ : Rho) (φ : Nat → Addr → Prop) : Prop where
  len : σ.length = ρ.length
  sl : ∀ i s, ρ[i]? = some s → SlOk K H (fun b => ∃ j, φ j b) (φ i) σ[i]? s
  out : ∀ i, ρ[i]? = none → ∀ b, ¬ φ i b
  dis : ∀ i j b, φ i b → φ j b → i = j
  frm : ∀ b o, ¬ B.F0 b → B.H0 b = some o → H b = some o
  frz : ∀ b, B.F0 b → ∃ o, H b = some o
  sub : ∀ i b, φ i b → B.F0 b ∨ B.H0 b = none
  io : ∀ i x, B.io i = some x → σ[i]? = some (some (.ref x)) ∧ ∃ ob, ρ[i]? = some (.o ob)
  xo : XoOk K B.xo σ ρ

/-! ### what a slot's reading needs -/
inductive RdSl (K : PySem.W.Frag) (H : Hp) : Option (Option V) → Sl → Prop
  | nil {v : Option (Option V)} : RdSl K H v .nil
  | d {v : V} {d : PyData} : Rp K H v d → RdSl K H (some (some v)) (.d d)
  | b {a : Addr} {xs : List V} {ds : List PyData} : SqL K H a xs → Rps K H xs ds → RdSl K H (some (some (.ref a))) (.b ds)
  | o {x : Addr} {ob : Ob} {fp : Addr → Prop} : OwnRep K H fp x ob → RdSl K H (some (some (.ref x))) (.o ob)
  | r {x : Addr} {ob : Ob} {fp : Addr → Prop} : OwnRep K H fp x ob → RdSl K H (some (some (.ref x))) (.r ob)
  | x {v : Option (Option V)} {c : Str} : RdSl K H v (.x c)
structure RdOk (K : PySem.W.Frag) (xo : XO) (H : Hp) (σ : L2.St) (ρ : Rho) : Prop where
  rd : ∀ (i : Nat) (s : Sl), ρ[i]? = some s → RdSl K H σ[i]? s
  xo : XoOk K xo σ ρ
theorem RdSl.mono {K : PySem.W.Frag} {H H' : Hp} (e : Same H H') {v s} (h : RdSl K H v s) : RdSl K H' v s := by
  cases h with
  | nil => exact .nil
  | d r => exact .d (r.mono (firm e))
  | b q r => exact .b (e.seq q) (r.mono (firm e))
  | o r => exact .o (r.mono (firm e) fun b o _ => e b o)
  | r r => exact .r (r.mono (firm e) fun b o _ => e b o)
  | x => exact .x
theorem RdOk.mono {K : PySem.W.Frag} {xo : XO} {H H' : Hp} (e : Same H H') {σ ρ} (h : RdOk K xo H σ ρ) : RdOk K xo H' σ ρ := ⟨fun i s q => (h.rd i s q).mono e, h.xo⟩
theorem SlOk.rd {K : PySem.W.Frag} {H : Hp} {all fp : Addr → Prop} {v s} (h : SlOk K H all fp v s) : RdSl K H v s := by
  cases h with
  | nil _ => exact .nil
  | d r _ => exact .d r
  | b q r _ => exact .b (q.elim (fun z => .inl z.1) .inr) r
  | o r => exact .o r
  | r r _ _ => exact .r r
  | x _ => exact .x
theorem EnvOk.rd {K : PySem.W.Frag} {B : Bd} {H : Hp} {σ : L2.St} {ρ : Rho} {φ : Nat → Addr → Prop} (h : EnvOk K B H σ ρ φ) : RdOk K B.xo H σ ρ := ⟨fun i s e => (h.sl i s e).rd, h.xo⟩
theorem SlOk.mono {K : PySem.W.Frag} {H H' : Hp} {all fp : Addr → Prop} {v s} (e : Same H H') (h : SlOk K H all fp v s) : SlOk K H' all fp v s := by
  cases h with
  | nil z => exact .nil z
  | d r z => exact .d (r.mono (firm e)) z
  | b q r z =>
    refine .b (q.imp (fun z => ⟨?_, z.2⟩) id) (r.mono (firm e)) z
    rcases z.1 with y | ⟨o, y⟩
    · exact .inl (e _ _ y)
    · exact .inr ⟨o, e _ _ y⟩
  | o r => exact .o (r.mono (firm e) fun b o _ => e b o)
  | r r n z => exact .r (r.mono (firm e) fun b o _ => e b o) n z
  | x z => exact .x z
/-- new things laid: all stands -/
theorem EnvOk.same {K : PySem.W.Frag} {B : Bd} {H H' : Hp} {σ : L2.St} {ρ : Rho} {φ : Nat → Addr → Prop} (h : EnvOk K B H σ ρ φ) (e : Same H H') : EnvOk K B H' σ ρ φ :=
  ⟨h.len, fun i s q => (h.sl i s q).mono e, h.out, h.dis, fun b o n q => e b o (h.frm b o n q), fun b z => let ⟨o, q⟩ := h.frz b z; ⟨o, e b o q⟩, h.sub, h.io, h.xo⟩
theorem EnvOk.there {K : PySem.W.Frag} {B : Bd} {H : Hp} {σ : L2.St} {ρ : Rho} {φ : Nat → Addr → Prop} (h : EnvOk K B H σ ρ φ) {i : Nat} {b : Addr} (hb : φ i b) : ∃ o, H b = some o ∧ Soft o := by
  cases q : ρ[i]? with
  | none => exact absurd hb (h.out i q b)
  | some s =>
    have z := h.sl i s q
    cases s with
    | o ob => generalize σ[i]? = v at z; cases z with | o r => exact r.soft b hb
    | nil => generalize σ[i]? = v at z; cases z with | nil n => exact absurd hb (n b)
    | d x => generalize σ[i]? = v at z; cases z with | d _ n => exact absurd hb (n b)
    | b x => generalize σ[i]? = v at z; cases z with | b _ _ n => exact absurd hb (n b)
    | r x => generalize σ[i]? = v at z; cases z with | r _ _ n => exact absurd hb (n b)
    | x x => generalize σ[i]? = v at z; cases z with | x n => exact absurd hb (n b)
/-- an address of nothing: not at entry either -/
theorem EnvOk.new0 {K : PySem.W.Frag} {B : Bd} {H : Hp} {σ : L2.St} {ρ : Rho} {φ : Nat → Addr → Prop} (h : EnvOk K B H σ ρ φ) {a : Addr} (n : H a = none) : B.H0 a = none ∧ ¬ B.F0 a := by
  have nf : ¬ B.F0 a := fun z => by obtain ⟨o, q⟩ := h.frz a z; rw [n] at q; cases q
  refine ⟨?_, nf⟩
  cases q : B.H0 a with
  | none => rfl
  | some o => have := h.frm a o nf q; rw [n] at this; cases this
theorem EnvOk.notOwn {K : PySem.W.Frag} {B : Bd} {H : Hp} {σ : L2.St} {ρ : Rho} {φ : Nat → Addr → Prop} (h : EnvOk K B H σ ρ φ) {i : Nat} (hn : ∀ ob, ρ[i]? ≠ some (.o ob)) : ∀ b, ¬ φ i b := fun b hb => by
  cases q : ρ[i]? with
  | none => exact h.out i q b hb
  | some s =>
    have z := h.sl i s q
    cases s with
    | o ob => exact hn ob q
    | nil => generalize σ[i]? = v at z; cases z with | nil n => exact n b hb
    | d x => generalize σ[i]? = v at z; cases z with | d _ n => exact n b hb
    | b x => generalize σ[i]? = v at z; cases z with | b _ _ n => exact n b hb
    | r x => generalize σ[i]? = v at z; cases z with | r _ _ n => exact n b hb
    | x x => generalize σ[i]? = v at z; cases z with | x n => exact n b hb
theorem EnvOk.notIo {K : PySem.W.Frag} {B : Bd} {H : Hp} {σ : L2.St} {ρ : Rho} {φ : Nat → Addr → Prop} (h : EnvOk K B H σ ρ φ) {i : Nat} (hn : ∀ ob, ρ[i]? ≠ some (.o ob)) : B.io i = none := by
  cases q : B.io i with
  | none => rfl
  | some x => obtain ⟨_, ob, e⟩ := h.io i x q; exact absurd e (hn ob)
/-- a slot that holds no own thing takes a value that stays -/
theorem EnvOk.setD {K : PySem.W.Frag} {B : Bd} {H : Hp} {σ : L2.St} {ρ : Rho} {φ : Nat → Addr → Prop} (h : EnvOk K B H σ ρ φ) {i : Nat} {v : V} {d : PyData} (hn : ∀ ob, ρ[i]? ≠ some (.o ob)) (r : Rp K H v d) :
    EnvOk K B H (σ.set i (some v)) (ρ.set i (.d d)) φ := by
  refine ⟨by simp [h.len], fun j s q => ?_, fun j q => h.out j (by
    rw [List.getElem?_eq_none_iff] at q ⊢
    simpa using q), h.dis, h.frm, h.frz, h.sub, fun j x q => ?_, h.xo.set i _ (fun c z => by cases z)⟩
  · by_cases e : i = j
    · subst e
      have hl : i < ρ.length := by
        have := (List.getElem?_eq_some_iff.mp q).1
        simpa using this
      rw [List.getElem?_set_self hl] at q
      cases q
      rw [List.getElem?_set_self (by rw [h.len]; exact hl)]
      exact .d r (h.notOwn hn)
    · rw [List.getElem?_set_ne e] at q
      rw [List.getElem?_set_ne e]
      exact h.sl j s q
  · have e : i ≠ j := fun e => by subst e; rw [h.notIo hn] at q; cases q
    rw [List.getElem?_set_ne e, List.getElem?_set_ne e]
    exact h.io j x q
/-- .. or a new list as its own -/
theorem EnvOk.setNew {K : PySem.W.Frag} {B : Bd} {H H' : Hp} {σ : L2.St} {ρ : Rho} {φ : Nat → Addr → Prop} (h : EnvOk K B H σ ρ φ) {i : Nat} {a : Addr} {xs : List V} {ds : List PyData} (hn : ∀ ob, ρ[i]? ≠ some (.o ob)) (hi : i < ρ.length)
    (e : Same H H') (n : H a = none) (ha : H' a = some (.lst xs)) (r : Rps K H' xs ds) :
    EnvOk K B H' (σ.set i (some (.ref a))) (ρ.set i (.o (.lst ds))) (fun j b => (j = i ∧ b = a) ∨ φ j b) := by
  have h' := h.same e
  have nφ : ∀ j, ¬ φ j a := fun j z => by obtain ⟨o, q, _⟩ := h.there z; rw [n] at q; cases q
  refine ⟨by simp [h.len], fun j s q => ?_, fun j q b hb => ?_, fun j k b hj hk => ?_, h'.frm, h'.frz, fun j b hb => ?_, fun j x q => ?_, h.xo.set i _ (fun c z => by cases z)⟩
  · by_cases ej : i = j
    · subst ej
      rw [List.getElem?_set_self hi] at q
      cases q
      rw [List.getElem?_set_self (by rw [h.len]; exact hi)]
      have z : (fun b => (i = i ∧ b = a) ∨ φ i b) = fun b => b = a := by
        funext b
        apply propext
        exact ⟨fun z => z.elim (fun z => z.2) fun z => absurd z (h.notOwn hn b), fun z => .inl ⟨rfl, z⟩⟩
      rw [z]
      exact .o (.lst ha r)
    · rw [List.getElem?_set_ne ej] at q
      rw [List.getElem?_set_ne ej]
      have zj : (fun b => (j = i ∧ b = a) ∨ φ j b) = φ j := by
        funext b
        exact propext ⟨fun z => z.elim (fun z => absurd z.1.symm ej) id, .inr⟩
      rw [zj]
      have z := h.sl j s q
      generalize σ[j]? = v at z
      cases z with
      | nil z => exact .nil z
      | d r z => exact .d (r.mono (firm e)) z
      | b q' r z =>
        refine .b (q'.imp (fun ⟨rd, na⟩ => ⟨rd.imp (fun y => e _ _ y) fun ⟨o, y⟩ => ⟨o, e _ _ y⟩, fun ⟨k, hk⟩ => hk.elim (fun z => ?_) fun z => na ⟨k, z⟩⟩) id) (r.mono (firm e)) z
        obtain ⟨_, ea⟩ := z
        rcases rd with y | ⟨o, y⟩ <;> (rw [ea, n] at y; cases y)
      | o r => exact .o (r.mono (firm e) fun b o _ => e b o)
      | r r nr z =>
        refine .r (r.mono (firm e) fun b o _ => e b o) (fun b hb ⟨k, hk⟩ => hk.elim (fun z => ?_) fun z => nr b hb ⟨k, z⟩) z
        obtain ⟨o, q, _⟩ := r.soft b hb
        rw [z.2, n] at q
        cases q
      | x z => exact .x z
  · rcases hb with ⟨e1, _⟩ | hb
    · subst e1
      rw [List.getElem?_eq_none_iff] at q
      simp at q
      omega
    · exact h.out j (by rw [List.getElem?_eq_none_iff] at q ⊢; simpa using q) b hb
  · rcases hj with ⟨e1, e2⟩ | hj
    · rcases hk with ⟨e3, _⟩ | hk
      · rw [e1, e3]
      · subst e2; exact absurd hk (nφ k)
    · rcases hk with ⟨_, e2⟩ | hk
      · subst e2; exact absurd hj (nφ j)
      · exact h.dis j k b hj hk
  · rcases hb with ⟨_, e2⟩ | hb
    · subst e2; exact .inr (h.new0 n).1
    · exact h.sub j b hb
  · have ej : i ≠ j := fun ej => by subst ej; rw [h.notIo hn] at q; cases q
    rw [List.getElem?_set_ne ej, List.getElem?_set_ne ej]
    exact h.io j x q
end PL

namespace PL
open PySem PySem.Spec PyProof.Rows L2
/-! ### freezing a list -/
theorem Inv.freeze {X : Cx} {pins : List (Addr × Obj)} {σ : L2.St} {H : Hp} {s : Shared} {a : Addr} {xs : List V} (I : Inv X pins σ H s) (e : H a = some (.lst xs)) :
    ∃ o, Inv X pins σ (upd H a (.frz o (.lst xs))) s := by
  obtain ⟨_, its, n, rv, ho⟩ := I.hok a _ e
  have nn : ∀ {b : Addr}, H b = none → b ≠ a := fun {b} q z => by rw [z, e] at q; cases q
  have ok : HOk X.prog X.w (upd H a (.frz { cls := .type "list", data := .seq its.toArray n } (.lst xs))) s.heap := fun b u q => by
    by_cases hb : b = a
    · subst hb
      rw [upd_same] at q
      cases q
      exact ⟨ho, (I.hok b _ e).stay (fun _ _ _ q => q) (fun c q => by rw [upd_ne (ne_of q e (by intro z; cases z))]; exact q) fun c ys q => by rw [upd_ne (ne_of q e (by intro z; cases z))]; exact q⟩
    · rw [upd_ne hb] at q
      exact (I.hok b u q).stay (fun _ _ _ q => q) (fun c q => by rw [upd_ne (ne_of q e (by intro z; cases z))]; exact q) fun c ys q => by rw [upd_ne (ne_of q e (by intro z; cases z))]; exact q
  refine ⟨_, I.ok, I.os, I.bare, ⟨I.base.keep, I.base.slot, fun b o q n hx => ?_, I.base.there, fun b ys q => ?_, fun b o u q => ?_, fun b ps q => ?_⟩, I.loc, I.cell, ?_, fun x c q => ?_, fun p hp => ?_, ok, I.len⟩
  · have z := I.base.free b o q n hx
    rw [upd_ne (nn z)]; exact z
  · have z := I.base.tups b ys q
    rw [upd_ne (ne_of z e (by intro z; cases z))]; exact z
  · have z := I.base.frzs b o u q
    rw [upd_ne (ne_of z e (by intro z; cases z))]; exact z
  · obtain ⟨m, z⟩ := I.base.tbls b ps q
    exact ⟨m, by rw [upd_ne (ne_of z e (by intro z; cases z))]; exact z⟩
  · rw [upd_ne (nn I.free)]; exact I.free
  · rw [upd_ne (nn (I.freeC x c q))]; exact I.freeC x c q
  · obtain ⟨q1, q2, q3⟩ := I.pin p hp
    exact ⟨q1, by rw [upd_ne (nn q2)]; exact q2, q3⟩
/-- the value, if it is a list that may turn, is frozen -/
def tFrz (t : TE) : TE := fun σ H Q => t σ H fun v H1 => Q v H1 ∨ ∃ a xs, v = .ref a ∧ H1 a = some (.lst xs) ∧ ∀ o, Q v (upd H1 a (.frz o (.lst xs)))
theorem pe_frz {X : Cx} {e : Expr} {t : TE} (h : PE X e t) : PE X e (tFrz t) := ⟨fun pins s σ H Q I hw => thn (h.run pins s σ H _ I hw) fun u s1 ⟨v, H1, I1, r1, q⟩ => by
  rcases q with q | ⟨a, xs, ev, e1, q⟩
  · exact ⟨v, H1, I1, r1, q⟩
  · obtain ⟨o, I2⟩ := Inv.freeze I1 e1
    exact ⟨v, _, I2, r1, q o⟩⟩
theorem _root_.L2.PE.weak {X : Cx} {e : Expr} {t t' : TE} (h : PE X e t) (w : ∀ σ H Q, t' σ H Q → t σ H Q) : PE X e t' := ⟨fun pins s σ H Q I hw => h.run pins s σ H Q I (w σ H Q hw)⟩
theorem _root_.L2.PT.weak {X : Cx} {e : Expr} {t t' : TT} (h : PT X e t) (w : ∀ σ H Q, t' σ H Q → t σ H Q) : PT X e t' := ⟨fun pins s σ H Q I hw => h.run pins s σ H Q I (w σ H Q hw)⟩
theorem _root_.L2.PW.weak {X : Cx} {e : Expr} {t t' : TT} (h : PW X e t) (w : ∀ σ H Q, t' σ H Q → t σ H Q) : PW X e t' := ⟨fun wh pins s σ H Q I hw => h.run wh pins s σ H Q I (w σ H Q hw)⟩
theorem _root_.L2.PA.weak {X : Cx} {e : List Expr} {t t' : TA} (h : PA X e t) (w : ∀ σ H Q, t' σ H Q → t σ H Q) : PA X e t' := ⟨fun p pins s σ H Q I hw => h.run p pins s σ H Q I (w σ H Q hw)⟩
theorem _root_.L2.PS.weak {X : Cx} {e : Stmt} {t t' : TS} (h : PS X e t) (w : ∀ D σ H, t' D σ H → t D σ H) : PS X e t' := ⟨fun pins s σ H D I hw => h.run pins s σ H D I (w D σ H hw)⟩
theorem _root_.L2.PSs.weak {X : Cx} {e : List Stmt} {t t' : TS} (h : PSs X e t) (w : ∀ D σ H, t' D σ H → t D σ H) : PSs X e t' := ⟨fun pins s σ H D I hw => h.run pins s σ H D I (w D σ H hw)⟩
theorem _root_.L2.PTs.weak {X : Cx} {e : List Expr} {t t' : TT} (h : PTs X e t) (w : ∀ σ H Q, t' σ H Q → t σ H Q) : PTs X e t' := ⟨fun pins s σ H Q I hw => h.run pins s σ H Q I (w σ H Q hw)⟩

/-! ### mirrors and their readings -/
abbrev ME := Rho → Option PyData
abbrev MT := Rho → Option Bool
abbrev MA := Rho → Option (List PyData)
/-- an expression's mirror -/
def tE (K : PySem.W.Frag) (xo : XO) (k : Kd) (m : ME) : TE := fun σ H Q => ∃ ρ d, RdOk K xo H σ ρ ∧ m ρ = some d ∧ ∀ v H', Same H H' → RK K k H H' v d → Q v H'
abbrev PEm (X : Cx) (xo : XO) (k : Kd) (e : Expr) (m : ME) : Prop := PE X e (tE X.K xo k m)
def tT (K : PySem.W.Frag) (xo : XO) (m : MT) : TT := fun σ H Q => ∃ ρ b, RdOk K xo H σ ρ ∧ m ρ = some b ∧ ∀ H', Same H H' → Q b H'
abbrev PTm (X : Cx) (xo : XO) (e : Expr) (m : MT) : Prop := PT X e (tT X.K xo m)
abbrev PWm (X : Cx) (xo : XO) (e : Expr) (m : MT) : Prop := PW X e (tT X.K xo m)
/-- arguments: each stays, or may be read -/
inductive RAs (K : PySem.W.Frag) (H : Hp) : List Bool → List V → List PyData → Prop
  | nil : RAs K H [] [] []
  | per {v : V} {d : PyData} {ks vs ds} : Rp K H v d → RAs K H ks vs ds → RAs K H (true :: ks) (v :: vs) (d :: ds)
  | any {v : V} {d : PyData} {ks vs ds} : RpA K H v d → RAs K H ks vs ds → RAs K H (false :: ks) (v :: vs) (d :: ds)
theorem RAs.mono {K : PySem.W.Frag} {H H' : Hp} (s : Same H H') {ks vs ds} (h : RAs K H ks vs ds) : RAs K H' ks vs ds := by
  induction h with
  | nil => exact .nil
  | per r _ ih => exact .per (r.mono (firm s)) ih
  | any r _ ih => exact .any (r.mono s) ih
def tAm (K : PySem.W.Frag) (xo : XO) (ks : List Bool) (m : MA) : TA := fun σ H Q => ∃ ρ ds, RdOk K xo H σ ρ ∧ m ρ = some ds ∧ ∀ vs H', Same H H' → RAs K H' ks vs ds → Q vs H'
abbrev PAm (X : Cx) (xo : XO) (ks : List Bool) (es : List Expr) (m : MA) : Prop := PA X es (tAm X.K xo ks m)
section
variable {X : Cx} {xo : XO} {e a b c : Expr} {es : List Expr} {k k1 k2 : Kd} {m ma mb : ME} {mt mu : MT} {ms : MA} {ks : List Bool} {pos : Pos}
theorem pm_any (h : PEm X xo k e m) : PEm X xo .any e m := h.weak fun σ H Q ⟨ρ, d, R, q, z⟩ => ⟨ρ, d, R, q, fun v H' s r => z v H' s r.toAny⟩
theorem pm_nf (h : PEm X xo .new e m) : PEm X xo .fre e m := h.weak fun σ H Q ⟨ρ, d, R, q, z⟩ => ⟨ρ, d, R, q, fun v H' s r => z v H' s (.inr r)⟩
theorem pm_fre (h : PEm X xo .per e m) : PEm X xo .fre e m := h.weak fun σ H Q ⟨ρ, d, R, q, z⟩ => ⟨ρ, d, R, q, fun v H' s r => z v H' s (.inl r)⟩
/-- what came is made to stay -/
theorem pm_per (h : PEm X xo .fre e m) : PEm X xo .per e m := (pe_frz h).weak fun σ H Q ⟨ρ, d, R, q, z⟩ => ⟨ρ, d, R, q, fun v H' s r => by
  rcases r with r | ⟨a, xs, ds, rfl, rfl, n, e1, r⟩
  · exact .inl (z v H' s r)
  · refine .inr ⟨a, xs, rfl, e1, fun o => z _ _ (fun b u q => ?_) (.lst upd_same (r.mono ⟨fun b ys q => ?_, fun b o u q => ?_⟩))⟩
    · rw [upd_ne (ne_of_none q n)]; exact s b u q
    · rw [upd_ne (ne_of q e1 (by intro z; cases z))]; exact q
    · rw [upd_ne (ne_of q e1 (by intro z; cases z))]; exact q⟩
/-! names and constants -/
def mV (i : Nat) : ME := fun ρ => match ρ[i]? with
  | some (.d d) => some d
  | _ => none
def mVA (i : Nat) : ME := fun ρ => match ρ[i]? with
  | some (.d d) => some d
  | some (.b ds) => some (.list ds)
  | some (.o (.lst ds)) => some (.list ds)
  | _ => none
theorem pm_v (i : Nat) {x : Str} (hN : X.N[i]? = some x := by rfl) (hv : Vis X.env.scope x := by first | exact Or.inl rfl | exact Or.inr (Or.inl rfl) | exact Or.inr (Or.inr rfl)) (hd : (x == ("__debug__" : Str)) = false := by decide)
    (hcd : (x == ("__classdict__" : Str)) = false := by decide) : PEm X xo .per (.Name x pos) (mV i) := (pe_var (i := i) hN hv hd hcd).weak fun σ H Q ⟨ρ, d, R, q, z⟩ => by
  unfold mV at q
  cases e : ρ[i]? with
  | none => rw [e] at q; cases q
  | some s =>
    rw [e] at q
    have r := R.rd i s e
    cases s with
    | d x =>
      cases q
      generalize hs : σ[i]? = v at r
      cases r with | d r => exact ⟨_, hs, z _ _ (Same.refl H) r⟩
    | _ => cases q
theorem pm_va (i : Nat) {x : Str} (hN : X.N[i]? = some x := by rfl) (hv : Vis X.env.scope x := by first | exact Or.inl rfl | exact Or.inr (Or.inl rfl) | exact Or.inr (Or.inr rfl)) (hd : (x == ("__debug__" : Str)) = false := by decide)
    (hcd : (x == ("__classdict__" : Str)) = false := by decide) : PEm X xo .any (.Name x pos) (mVA i) := (pe_var (i := i) hN hv hd hcd).weak fun σ H Q ⟨ρ, d, R, q, z⟩ => by
  unfold mVA at q
  cases e : ρ[i]? with
  | none => rw [e] at q; cases q
  | some s =>
    rw [e] at q
    have r := R.rd i s e
    generalize hs : σ[i]? = v at r
    cases r with
    | nil => cases q
    | d r => cases q; exact ⟨_, hs, z _ _ (Same.refl H) (.per r)⟩
    | b e1 r => cases q; exact ⟨_, hs, z _ _ (Same.refl H) (.seq e1 r)⟩
    | r r => cases q
    | x => cases q
    | o r => cases r with
      | lst e1 r => cases q; exact ⟨_, hs, z _ _ (Same.refl H) (.seq (.of e1) r)⟩
      | ins _ _ _ => cases q
def mC (d : PyData) : ME := fun _ => some d
theorem tE_c {v : V} {d : PyData} {σ : L2.St} {H : Hp} {Q : VK} {K : PySem.W.Frag} (r : ∀ H, Rp K H v d) (h : tE K xo .per (mC d) σ H Q) : tC v σ H Q := by
  obtain ⟨ρ, d', R, q, z⟩ := h
  cases q
  exact z _ _ (Same.refl H) (r H)
theorem pm_int {i : Int} {j : Nat} : PEm X xo .per (.Constant (.int i) j pos) (mC (.int i)) := pe_int.weak fun _ _ _ h => tE_c (fun _ => .int i) h
theorem pm_bl {i : Bool} {j : Nat} : PEm X xo .per (.Constant (.bool i) j pos) (mC (.bool i)) := pe_bl.weak fun _ _ _ h => tE_c (fun _ => .bl i) h
theorem pm_str {i : Str} {j : Nat} : PEm X xo .per (.Constant (.str i) j pos) (mC (.str i)) := pe_str.weak fun _ _ _ h => tE_c (fun _ => .str i) h
theorem pm_non {j : Nat} : PEm X xo .per (.Constant .none j pos) (mC .none) := pe_non.weak fun _ _ _ h => tE_c (fun _ => .non) h
/-! two expressions by a rule of their values -/
def mBin (f : PyData → PyData → Option PyData) (ma mb : ME) : ME := fun ρ => (ma ρ).bind fun x => (mb ρ).bind fun y => f x y
def mUn (f : PyData → Option PyData) (ma : ME) : ME := fun ρ => (ma ρ).bind f
/-- the rule r of two values does f -/
def R2m (K : PySem.W.Frag) (k : Kd) (r : R2) (f : PyData → PyData → Option PyData) : Prop := ∀ v u H Q d1 d2 d, RpA K H v d1 → RpA K H u d2 → f d1 d2 = some d → (∀ v' H', Same H H' → RK K k H H' v' d → Q v' H') → r v u H Q
theorem tE_bin {r : R2} {f : PyData → PyData → Option PyData} (hr : R2m X.K k r f) {σ : L2.St} {H : Hp} {Q : VK} (h : tE X.K xo k (mBin f ma mb) σ H Q) : tOp r (tE X.K xo k1 ma) (tE X.K xo k2 mb) σ H Q := by
  obtain ⟨ρ, d, R, q, z⟩ := h
  unfold mBin at q
  obtain ⟨x, q1, q⟩ := Option.bind_eq_some_iff.mp q
  obtain ⟨y, q2, q⟩ := Option.bind_eq_some_iff.mp q
  refine ⟨ρ, x, R, q1, fun v H1 s1 r1 => ⟨ρ, y, R.mono s1, q2, fun u H2 s2 r2 => ?_⟩⟩
  exact hr v u H2 Q x y d (r1.toAny.mono s2) r2.toAny q fun v' H' s r' => z v' H' ((s1.trans s2).trans s) (r'.back (s1.trans s2))
theorem pm_op {op : Operator} {r : R2} {f : PyData → PyData → Option PyData} (ho : OpR X (binaryOp op) r) (hr : R2m X.K k r f) (ha : PEm X xo k1 a ma) (hb : PEm X xo k2 b mb) : PEm X xo k (.BinOp a op b pos) (mBin f ma mb) :=
  (pe_op ho ha hb).weak fun _ _ _ h => tE_bin hr h
theorem pm_cmp {op : CmpOp} {r : R2} {f : PyData → PyData → Option PyData} (ho : OpR X (compareOp op) r) (hr : R2m X.K .per r f) (ha : PEm X xo k1 a ma) (hb : PEm X xo k2 b mb) (hm : behindInMarks op b = false) : PEm X xo .per (.Compare a [op] [b] pos) (mBin f ma mb) :=
  (pe_cmpR ho ha hb hm).weak fun _ _ _ h => tE_bin hr h
def mTest (m : ME) : MT := fun ρ => (m ρ).bind fun d => match d with
  | .bool b => some b
  | _ => none
theorem tT_of {t : TE} {σ : L2.St} {H : Hp} {Q : Bool → Hp → Prop} (w : ∀ σ H Q, tE X.K xo .per m σ H Q → t σ H Q) (h : tT X.K xo (mTest m) σ H Q) : tTest t σ H Q := by
  obtain ⟨ρ, b, R, q, z⟩ := h
  obtain ⟨d, q1, q⟩ := Option.bind_eq_some_iff.mp q
  refine w σ H _ ⟨ρ, d, R, q1, fun v H' s r => ?_⟩
  cases d with
  | bool c =>
    cases q
    cases r
    exact ⟨_, rfl, z H' s⟩
  | _ => cases q
theorem pq_cmp {op : CmpOp} {r : R2} {f : PyData → PyData → Option PyData} (ho : OpR X (compareOp op) r) (hr : R2m X.K .per r f) (ha : PEm X xo k1 a ma) (hb : PEm X xo k2 b mb) (hm : behindInMarks op b = false) : PTm X xo (.Compare a [op] [b] pos) (mTest (mBin f ma mb)) :=
  (pt_cmpR ho ha hb hm).weak fun _ _ _ h => tT_of (fun _ _ _ h => tE_bin hr h) h
theorem pq_val (h : PEm X xo k e m) (he : ∀ whole, isTrue e X.env whole = (do let v ← whole; standAt e.pos; holding [v] (truthy v)) := by intro _; rfl) : PTm X xo e (mTest m) :=
  (pt_val h he).weak fun σ H Q ⟨ρ, b, R, q, z⟩ => by
    obtain ⟨d, q1, q⟩ := Option.bind_eq_some_iff.mp q
    refine ⟨ρ, d, R, q1, fun v H' s r => ?_⟩
    have r := r.toAny
    cases d with
    | bool c => cases q; exact ⟨_, r.bool, z H' s⟩
    | _ => cases q
/-! and, or, not -/
def mAndT (a b : MT) : MT := fun ρ => (a ρ).bind fun x => match x with
  | true => b ρ
  | false => some false
def mOrT (a b : MT) : MT := fun ρ => (a ρ).bind fun x => match x with
  | true => some true
  | false => b ρ
def mNotT (a : MT) : MT := fun ρ => (a ρ).bind fun x => some (!x)
theorem pq_and1 (ha : PTm X xo a mt) : PWm X xo (.BoolOp .And [a] pos) mt := pw_and1 ha
theorem pq_or1 (ha : PTm X xo a mt) : PWm X xo (.BoolOp .Or [a] pos) mt := pw_or1 ha
theorem pq_and (ha : PTm X xo a mt) (hb : PWm X xo (.BoolOp .And (b :: es) pos) mu) : PWm X xo (.BoolOp .And (a :: b :: es) pos) (mAndT mt mu) := (pw_and ha hb).weak fun σ H Q ⟨ρ, d, R, q, z⟩ => by
  obtain ⟨x, q1, q⟩ := Option.bind_eq_some_iff.mp q
  refine ⟨ρ, x, R, q1, fun H1 s1 => ?_⟩
  cases x with
  | true => exact ⟨ρ, d, R.mono s1, q, fun H2 s2 => z H2 (s1.trans s2)⟩
  | false => cases q; exact z H1 s1
theorem pq_or (ha : PTm X xo a mt) (hb : PWm X xo (.BoolOp .Or (b :: es) pos) mu) : PWm X xo (.BoolOp .Or (a :: b :: es) pos) (mOrT mt mu) := (pw_or ha hb).weak fun σ H Q ⟨ρ, d, R, q, z⟩ => by
  obtain ⟨x, q1, q⟩ := Option.bind_eq_some_iff.mp q
  refine ⟨ρ, x, R, q1, fun H1 s1 => ?_⟩
  cases x with
  | true => cases q; exact z H1 s1
  | false => exact ⟨ρ, d, R.mono s1, q, fun H2 s2 => z H2 (s1.trans s2)⟩
theorem pq_not (ha : PTm X xo a mt) : PTm X xo (.UnaryOp .Not a pos) (mNotT mt) := (pt_not ha).weak fun σ H Q ⟨ρ, d, R, q, z⟩ => by
  obtain ⟨x, q1, q⟩ := Option.bind_eq_some_iff.mp q
  cases q
  exact ⟨ρ, x, R, q1, fun H1 s1 => z H1 s1⟩
def bl? : PyData → Option Bool
  | .bool b => some b
  | _ => none
def mAnd (a b : ME) : ME := fun ρ => ((a ρ).bind bl?).bind fun x => match x with
  | true => b ρ
  | false => some (.bool false)
def mOr (a b : ME) : ME := fun ρ => ((a ρ).bind bl?).bind fun x => match x with
  | true => some (.bool true)
  | false => b ρ
def mNot (a : ME) : ME := fun ρ => ((a ρ).bind bl?).bind fun x => some (.bool (!x))
theorem bl_some {d : PyData} {x : Bool} (h : bl? d = some x) : d = .bool x := by
  cases d with
  | bool b => cases h; rfl
  | _ => cases h
theorem pm_one {op : BoolOp} (ha : PEm X xo k a m) : PEm X xo k (.BoolOp op [a] pos) m := pe_one ha
theorem pm_and (ha : PEm X xo k1 a ma) (hb : PEm X xo k (.BoolOp .And (b :: es) pos) mb) : PEm X xo .any (.BoolOp .And (a :: b :: es) pos) (mAnd ma mb) := (pe_and ha hb).weak fun σ H Q ⟨ρ, d, R, q, z⟩ => by
  obtain ⟨x, q1, q⟩ := Option.bind_eq_some_iff.mp q
  obtain ⟨y, q0, q1⟩ := Option.bind_eq_some_iff.mp q1
  cases bl_some q1
  refine ⟨ρ, _, R, q0, fun v H1 s1 r1 => ⟨x, r1.toAny.bool, ?_⟩⟩
  cases x with
  | true => exact ⟨ρ, d, R.mono s1, q, fun v H2 s2 r2 => z v H2 (s1.trans s2) r2.toAny⟩
  | false => cases q; exact z _ H1 s1 (.per (.bl _))
theorem pm_or (ha : PEm X xo k1 a ma) (hb : PEm X xo k (.BoolOp .Or (b :: es) pos) mb) : PEm X xo .any (.BoolOp .Or (a :: b :: es) pos) (mOr ma mb) := (pe_or ha hb).weak fun σ H Q ⟨ρ, d, R, q, z⟩ => by
  obtain ⟨x, q1, q⟩ := Option.bind_eq_some_iff.mp q
  obtain ⟨y, q0, q1⟩ := Option.bind_eq_some_iff.mp q1
  cases bl_some q1
  refine ⟨ρ, _, R, q0, fun v H1 s1 r1 => ⟨x, r1.toAny.bool, ?_⟩⟩
  cases x with
  | true => cases q; exact z _ H1 s1 (.per (.bl _))
  | false => exact ⟨ρ, d, R.mono s1, q, fun v H2 s2 r2 => z v H2 (s1.trans s2) r2.toAny⟩
theorem pm_not (ha : PEm X xo k1 a ma) : PEm X xo .per (.UnaryOp .Not a pos) (mNot ma) := (pe_not ha).weak fun σ H Q ⟨ρ, d, R, q, z⟩ => by
  obtain ⟨x, q1, q⟩ := Option.bind_eq_some_iff.mp q
  obtain ⟨y, q0, q1⟩ := Option.bind_eq_some_iff.mp q1
  cases bl_some q1
  cases q
  exact ⟨ρ, _, R, q0, fun v H1 s1 r1 => ⟨x, r1.toAny.bool, z _ H1 s1 (.bl _)⟩⟩
/-- a bool's kind: it stays -/
def mBl (m : ME) : ME := fun ρ => ((m ρ).bind bl?).bind fun x => some (.bool x)
theorem pm_bool (h : PEm X xo k e m) : PEm X xo .per e (mBl m) := h.weak fun σ H Q ⟨ρ, d, R, q, z⟩ => by
  obtain ⟨x, q1, q⟩ := Option.bind_eq_some_iff.mp q
  obtain ⟨y, q0, q1⟩ := Option.bind_eq_some_iff.mp q1
  cases bl_some q1
  cases q
  exact ⟨ρ, _, R, q0, fun v H1 s1 r1 => z v H1 s1 (by rw [r1.toAny.bool]; exact .bl _)⟩
def mIf (c : MT) (a b : ME) : ME := fun ρ => (c ρ).bind fun x => match x with
  | true => a ρ
  | false => b ρ
theorem pm_if (hc : PTm X xo c mt) (ha : PEm X xo k a ma) (hb : PEm X xo k b mb) : PEm X xo k (.IfExp c a b pos) (mIf mt ma mb) := (pe_ifExp hc ha hb).weak fun σ H Q ⟨ρ, d, R, q, z⟩ => by
  obtain ⟨x, q1, q⟩ := Option.bind_eq_some_iff.mp q
  refine ⟨ρ, x, R, q1, fun H1 s1 => ?_⟩
  cases x with
  | true => exact ⟨ρ, d, R.mono s1, q, fun v H2 s2 r2 => z v H2 (s1.trans s2) (r2.back s1)⟩
  | false => exact ⟨ρ, d, R.mono s1, q, fun v H2 s2 r2 => z v H2 (s1.trans s2) (r2.back s1)⟩
/-! argument lists, displays -/
def mNil : MA := fun _ => some []
def mCons (m : ME) (ms : MA) : MA := fun ρ => (m ρ).bind fun d => (ms ρ).bind fun ds => some (d :: ds)
theorem pam_nil : PAm X xo [] [] mNil := pa_nil.weak fun σ H Q ⟨ρ, d, R, q, z⟩ => by
  cases q
  exact z _ _ (Same.refl H) .nil
theorem pam_per (ha : PEm X xo .per e m) (hr : PAm X xo ks es ms) (hs : starEach (e :: es) X.env = (false, eval e X.env) :: starEach es X.env := by rfl) : PAm X xo (true :: ks) (e :: es) (mCons m ms) := (pa_cons ha hr hs).weak fun σ H Q ⟨ρ, d, R, q, z⟩ => by
  obtain ⟨x, q1, q⟩ := Option.bind_eq_some_iff.mp q
  obtain ⟨y, q2, q⟩ := Option.bind_eq_some_iff.mp q
  cases q
  exact ⟨ρ, x, R, q1, fun v H1 s1 r1 => ⟨ρ, y, R.mono s1, q2, fun vs H2 s2 r2 => z _ _ (s1.trans s2) (.per (Rp.mono (firm s2) r1) r2)⟩⟩
theorem pam_any (ha : PEm X xo k e m) (hr : PAm X xo ks es ms) (hs : starEach (e :: es) X.env = (false, eval e X.env) :: starEach es X.env := by rfl) : PAm X xo (false :: ks) (e :: es) (mCons m ms) := (pa_cons ha hr hs).weak fun σ H Q ⟨ρ, d, R, q, z⟩ => by
  obtain ⟨x, q1, q⟩ := Option.bind_eq_some_iff.mp q
  obtain ⟨y, q2, q⟩ := Option.bind_eq_some_iff.mp q
  cases q
  exact ⟨ρ, x, R, q1, fun v H1 s1 r1 => ⟨ρ, y, R.mono s1, q2, fun vs H2 s2 r2 => z _ _ (s1.trans s2) (.any (r1.toAny.mono s2) r2)⟩⟩
theorem RAs.rps {K : PySem.W.Frag} {H : Hp} : ∀ {ks vs ds}, RAs K H ks vs ds → ks.all id = true → Rps K H vs ds
  | _, _, _, .nil, _ => .nil
  | _, _, _, .per r t, h => .cons r (t.rps h)
  | _, _, _, .any _ _, h => by cases h
/-- a display's length is bounded -/
def mTup (ms : MA) : ME := fun ρ => (ms ρ).bind fun ds => if ds.length ≤ 100 then some (.tuple ds) else none
def mLst (ms : MA) : ME := fun ρ => (ms ρ).bind fun ds => if ds.length ≤ 100 then some (.list ds) else none
theorem line100 {n : Nat} (h : n ≤ 100) : n ≤ sizeLine := Nat.le_trans h (by decide)
theorem same_new {H : Hp} {p : Addr} (h : H p = none) (o : HO) : Same H (upd H p o) := fun b u q => by rw [upd_ne (ne_of_none q h)]; exact q
theorem pm_tup {j : Nat} (h : PAm X xo ks es ms) (hk : ks.all id = true := by rfl) : PEm X xo .per (.Tuple es j pos) (mTup ms) := (pe_tup h).weak fun σ H Q ⟨ρ, d, R, q, z⟩ => by
  obtain ⟨ds, q1, q⟩ := Option.bind_eq_some_iff.mp q
  refine ⟨ρ, ds, R, q1, fun vs H1 s1 r1 => ?_⟩
  have r := r1.rps hk
  split at q
  · rename_i hl
    cases q
    refine ⟨line100 (by rw [r.length]; exact hl), fun p hp => z _ _ (s1.trans (same_new hp _)) (.tup (.of upd_same) (r.mono (firm (same_new hp _))))⟩
  · cases q
theorem pm_lst (h : PAm X xo ks es ms) (hk : ks.all id = true := by rfl) : PEm X xo .new (.List es pos) (mLst ms) := (pe_lst h).weak fun σ H Q ⟨ρ, d, R, q, z⟩ => by
  obtain ⟨ds, q1, q⟩ := Option.bind_eq_some_iff.mp q
  refine ⟨ρ, ds, R, q1, fun vs H1 s1 r1 => ?_⟩
  have r := r1.rps hk
  split at q
  · rename_i hl
    cases q
    refine ⟨line100 (by rw [r.length]; exact hl), fun p hp => z _ _ (s1.trans (same_new hp _)) ⟨p, vs, ds, rfl, rfl, s1.free hp, upd_same, r.mono (firm (same_new hp _))⟩⟩
  · cases q
end
end PL

namespace PL
open PySem PySem.Spec PyProof.Rows L2
/-! ### operators by value -/
section
variable {X : Cx} {xo : XO} {k : Kd}
theorem OpR.orW {f : Value → Value → Sem Value} {r r' : R2} (h : OpR X f r) (h' : OpR X f r') : OpR X f (fun x y H Q => r x y H Q ∨ r' x y H Q) := OpR.or h h'
/-- list + list, of any lists that may be read -/
def rCatA (K : PySem.W.Frag) : R2 := fun x y H Q => ∃ l b xs zs, x = .ref l ∧ y = .ref b ∧ SqL K H l xs ∧ SqL K H b zs ∧ xs.length + zs.length ≤ sizeLine ∧ ∀ p, H p = none → Q (.ref p) (upd H p (.lst (xs ++ zs)))
theorem plain_get {h : Heap} {a : Addr} {its : Array Value} (p : PlainL h a its) : ∃ n sl, h.get? a = some { cls := .type "list", data := .seq its n, slots := sl } := by
  obtain ⟨o, n, e, c, d, q⟩ := p
  obtain ⟨c', d', dt', sl'⟩ := o
  cases c
  cases d
  cases q
  exact ⟨n, sl', e⟩
theorem op_catA : OpR X (binaryOp .Add) (rCatA X.K) := by
  intro pins s σ H x y v u Q I rx ry h
  obtain ⟨l, b, xs, zs, rfl, rfl, hH, hB, hz, q⟩ := h
  cases rx
  cases ry
  obtain ⟨its, r, p1, _⟩ := I.list hH
  obtain ⟨its2, r2, p2, _⟩ := I.list hB
  obtain ⟨n1, sl1, e1⟩ := plain_get p1
  obtain ⟨n2, sl2, e2⟩ := plain_get p2
  have hz' : its.toArray.size + its2.toArray.size ≤ sizeLine := by rw [List.size_toArray, List.size_toArray, ← r.length, ← r2.length]; exact hz
  refine concat_meets ⟨_, e1, rfl⟩ ⟨_, e2, rfl⟩ noFill_list_add seq_list_add PySem.F.slot_list_add PySem.F.entry_list_add (PySem.F.args_list_add_2 _ _) (list_addW l b its.toArray its2.toArray n1 n2 none none sl1 sl2 hz') ⟨e1, e2, ?_⟩
  have ea : its.toArray ++ its2.toArray = (its ++ its2).toArray := by simp
  rw [ea]
  exact ⟨.ref _, _, I.lnew (t' := s.toks) (r.append r2) (by rw [List.length_append]; exact hz), rfl, q _ I.fresh⟩

/-! ints -/
def int2 (f : Int → Int → Option PyData) : PyData → PyData → Option PyData
  | .int i, .int j => f i j
  | _, _ => none
theorem int2_some {f : Int → Int → Option PyData} {a b d : PyData} (h : int2 f a b = some d) : ∃ i j, a = .int i ∧ b = .int j ∧ f i j = some d := by
  cases a with
  | int i => cases b with
    | int j => exact ⟨i, j, rfl, rfl, h⟩
    | _ => cases h
  | _ => cases h
theorem r2_int {C : Int → Int → Prop} {g : Int → Int → V} {f : Int → Int → Option PyData} (hf : ∀ i j d, f i j = some d → C i j ∧ ∀ K H, Rp K H (g i j) d) : R2m X.K .per (rI C g) (int2 f) := by
  intro v u H Q d1 d2 d r1 r2 q z
  obtain ⟨i, j, rfl, rfl, q⟩ := int2_some q
  obtain ⟨c, r⟩ := hf i j d q
  exact ⟨i, j, r1.int, r2.int, c, z _ _ (Same.refl H) (r _ _)⟩
theorem r2_int0 {g : Int → Int → V} {f : Int → Int → Option PyData} (hf : ∀ i j d, f i j = some d → ∀ K H, Rp K H (g i j) d) : R2m X.K .per (rI0 g) (int2 f) := by
  intro v u H Q d1 d2 d r1 r2 q z
  obtain ⟨i, j, rfl, rfl, q⟩ := int2_some q
  exact ⟨i, j, r1.int, r2.int, z _ _ (Same.refl H) (hf i j d q _ _)⟩
def subM : PyData → PyData → Option PyData := int2 fun i j => some (.int (i - j))
def mulM : PyData → PyData → Option PyData := int2 fun i j => if (-(2 ^ 64) < i ∧ i < 2 ^ 64) ∨ (-(2 ^ 64) < j ∧ j < 2 ^ 64) then some (.int (i * j)) else none
def divM : PyData → PyData → Option PyData := int2 fun i j => if 0 < j ∧ j < 1073741824 then some (.int (i / j)) else none
def modM : PyData → PyData → Option PyData := int2 fun i j => if 0 < j then some (.int (i % j)) else none
def ltM : PyData → PyData → Option PyData := int2 fun i j => some (.bool (decide (i < j)))
def leM : PyData → PyData → Option PyData := int2 fun i j => some (.bool (decide (i ≤ j)))
def gtM : PyData → PyData → Option PyData := int2 fun i j => some (.bool (decide (j < i)))
def geM : PyData → PyData → Option PyData := int2 fun i j => some (.bool (decide (j ≤ i)))
theorem some_if {c : Prop} [Decidable c] {α : Type} {x y : α} (h : (if c then some x else none) = some y) : c ∧ x = y := by
  split at h
  · rename_i hc; exact ⟨hc, Option.some.inj h⟩
  · cases h
theorem r2_sub : R2m X.K .per (rI0 fun i j => .int (i - j)) subM := r2_int0 fun i j d q K H => by cases q; exact .int _
theorem r2_mul : R2m X.K .per (rI CMul fun i j => .int (i * j)) mulM := r2_int fun i j d q => by obtain ⟨c, rfl⟩ := some_if q; exact ⟨c, fun _ _ => .int _⟩
theorem r2_div : R2m X.K .per (rI CDiv fun i j => .int (i / j)) divM := r2_int fun i j d q => by obtain ⟨c, rfl⟩ := some_if q; exact ⟨c, fun _ _ => .int _⟩
theorem r2_mod : R2m X.K .per (rI (fun _ j => 0 < j) fun i j => .int (i % j)) modM := r2_int fun i j d q => by obtain ⟨c, rfl⟩ := some_if q; exact ⟨c, fun _ _ => .int _⟩
theorem r2_lt : R2m X.K .per (rI0 fun i j => .bl (decide (i < j))) ltM := r2_int0 fun i j d q K H => by cases q; exact .bl _
theorem r2_le : R2m X.K .per (rI0 fun i j => .bl (decide (i ≤ j))) leM := r2_int0 fun i j d q K H => by cases q; exact .bl _
theorem r2_gt : R2m X.K .per (rI0 fun i j => .bl (decide (j < i))) gtM := r2_int0 fun i j d q K H => by cases q; exact .bl _
theorem r2_ge : R2m X.K .per (rI0 fun i j => .bl (decide (j ≤ i))) geM := r2_int0 fun i j d q K H => by cases q; exact .bl _
/-! + of ints, texts, lists, tuples -/
def rStr2 : R2 := fun x y H Q => ∃ i j, x = .str i ∧ y = .str j ∧ i.length + j.length ≤ sizeLine ∧ Q (.str (i ++ j)) H
def rAddA (K : PySem.W.Frag) : R2 := fun x y H Q => (rI0 (fun i j => .int (i + j)) x y H Q ∨ rStr2 x y H Q) ∨ (rCatA K x y H Q ∨ rCatT K x y H Q)
theorem op_addA : OpR X (binaryOp .Add) (rAddA X.K) := OpR.or (OpR.or op_add op_add_str) (OpR.or op_catA op_catT)
def addM : PyData → PyData → Option PyData
  | .int i, .int j => some (.int (i + j))
  | .str i, .str j => if i.length + j.length ≤ sizeLine then some (.str (i ++ j)) else none
  | .list xs, .list ys => if xs.length + ys.length ≤ sizeLine then some (.list (xs ++ ys)) else none
  | .tuple xs, .tuple ys => if xs ≠ [] ∧ xs.length + ys.length ≤ sizeLine then some (.tuple (xs ++ ys)) else none
  | _, _ => none
theorem r2_add : R2m X.K .fre (rAddA X.K) addM := by
  intro v u H Q d1 d2 d r1 r2 q z
  cases d1 with
  | int i => cases d2 with
    | int j => cases q; exact .inl (.inl ⟨i, j, r1.int, r2.int, z _ _ (Same.refl H) (.inl (.int _))⟩)
    | _ => cases q
  | str i => cases d2 with
    | str j =>
      obtain ⟨c, rfl⟩ := some_if q
      exact .inl (.inr ⟨i, j, r1.str, r2.str, c, z _ _ (Same.refl H) (.inl (.str _))⟩)
    | _ => cases q
  | list xs => cases d2 with
    | list ys =>
      obtain ⟨c, rfl⟩ := some_if q
      obtain ⟨a, vs, rfl, e1, p1⟩ := r1.list
      obtain ⟨b, ws, rfl, e2, p2⟩ := r2.list
      refine .inr (.inl ⟨a, b, vs, ws, rfl, rfl, e1, e2, by rw [p1.length, p2.length]; exact c, fun p hp => z _ _ (same_new hp _) (.inr ⟨p, _, _, rfl, rfl, hp, upd_same, (p1.append p2).mono (firm (same_new hp _))⟩)⟩)
    | _ => cases q
  | tuple xs => cases d2 with
    | tuple ys =>
      obtain ⟨c, rfl⟩ := some_if q
      obtain ⟨a, vs, rfl, e1, p1⟩ := r1.tuple
      obtain ⟨b, ws, rfl, e2, p2⟩ := r2.tuple
      have l1 := p1.length
      have l2 := p2.length
      refine .inr (.inr ⟨a, b, vs, ws, rfl, rfl, e1, e2, fun w => c.1 ?_, by rw [l1, l2]; exact c.2, fun w => ?_, fun w p hp => z _ _ (same_new hp _) (.inl (.tup (.of upd_same) ((p1.append p2).mono (firm (same_new hp _)))))⟩)
      · subst w; cases xs with
        | nil => rfl
        | cons _ _ => cases l1
      · subst w
        have : ys = [] := by cases ys with
          | nil => rfl
          | cons _ _ => cases l2
        subst this
        rw [List.append_nil] at z
        exact z _ _ (Same.refl H) (.inl (.tup e1 p1))
    | _ => cases q
  | _ => cases q
/-! == of data of any make -/
def okD (d : PyData) : Bool := d.canLay0
/-- one of the two is at most 200 deep -/
def eqM (a b : PyData) : Option PyData := if a.canLay0 = true ∧ b.canLay0 = true ∧ min a.depth b.depth ≤ 200 then some (.bool (PyData.eqv a b)) else none
def neM (a b : PyData) : Option PyData := if a.canLay0 = true ∧ b.canLay0 = true ∧ min a.depth b.depth ≤ 200 then some (.bool (!PyData.eqv a b)) else none
def rEqA (K : PySem.W.Frag) : R2 := fun x y H Q => ∃ d e, Dp K H x d ∧ Dp K H y e ∧ d.canLay0 = true ∧ e.canLay0 = true ∧ min d.depth e.depth ≤ 200 ∧ Q (.bl (PyData.eqv d e)) H
def rNeA (K : PySem.W.Frag) : R2 := fun x y H Q => ∃ d e, Dp K H x d ∧ Dp K H y e ∧ d.canLay0 = true ∧ e.canLay0 = true ∧ min d.depth e.depth ≤ 200 ∧ Q (.bl (!PyData.eqv d e)) H
theorem op_eqA (hu : X.A.units + 200 < cLine) : OpR X (compareOp .Eq) (rEqA X.K) := by
  intro pins s σ H x y v u Q I rx ry h
  obtain ⟨d, e, hd, he, sd, se, dm, q⟩ := h
  obtain ⟨as, r1⟩ := Dp.reads I d x v hd rx
  obtain ⟨bs, r2⟩ := Dp.reads I e y u he ry
  exact SeqAt.compareEq_reads r1 r2 sd se (by omega) ⟨.bl _, H, I, rfl, q⟩
theorem op_neA (hu : X.A.units + 200 < cLine) : OpR X (compareOp .NotEq) (rNeA X.K) := by
  intro pins s σ H x y v u Q I rx ry h
  obtain ⟨d, e, hd, he, sd, se, dm, q⟩ := h
  obtain ⟨as, r1⟩ := Dp.reads I d x v hd rx
  obtain ⟨bs, r2⟩ := Dp.reads I e y u he ry
  exact SeqAt.compareNe_reads r1 r2 sd se (by omega) ⟨.bl _, H, I, rfl, q⟩
theorem r2_eq : R2m X.K .per (rEqA X.K) eqM := by
  intro v u H Q d1 d2 d r1 r2 q z
  obtain ⟨⟨c1, c2, c3⟩, rfl⟩ := some_if q
  exact ⟨d1, d2, r1.dp, r2.dp, c1, c2, c3, z _ _ (Same.refl H) (.bl _)⟩
theorem r2_ne : R2m X.K .per (rNeA X.K) neM := by
  intro v u H Q d1 d2 d r1 r2 q z
  obtain ⟨⟨c1, c2, c3⟩, rfl⟩ := some_if q
  exact ⟨d1, d2, r1.dp, r2.dp, c1, c2, c3, z _ _ (Same.refl H) (.bl _)⟩
theorem hu200 {k : Nat} {A : Around} (hr : Room k A) : A.units + 200 < cLine := by have := hr.un; omega
/-! in: a list or tuple of data; a sign in a text -/
def itemsOf : PyData → Option (List PyData)
  | .list ds => some ds
  | .tuple ds => some ds
  | _ => none
def inM (neg : Bool) (a b : PyData) : Option PyData := match b with
  | .str y => match a with
    | .str x => some (.bool (xor neg (!(Builtin.Str.occurrences y x 0 y.length 1).isEmpty)))
    | _ => none
  | b => (itemsOf b).bind fun ds => if a.canLay0 = true ∧ b.canLay0 = true ∧ a.depth ≤ 190 then some (.bool (xor neg (ds.any fun z => PyData.eqv z a))) else none
def rInA (K : PySem.W.Frag) (neg : Bool) : R2 := fun x y H Q => (∃ d e ds, Dp K H x d ∧ Dp K H y e ∧ itemsOf e = some ds ∧ d.canLay0 = true ∧ e.canLay0 = true ∧ d.depth ≤ 190 ∧ Q (.bl (xor neg (ds.any fun z => PyData.eqv z d))) H) ∨
  ∃ i j, x = .str i ∧ y = .str j ∧ Q (.bl (xor neg (!(Builtin.Str.occurrences j i 0 j.length 1).isEmpty))) H
theorem room_inA {A : Around} {xs : List PyData} {d : PyData} (hd : d.depth ≤ 190) (hu : A.units + 200 < cLine) : A.units + 1 + min (PyData.depthAll xs) d.depth < cLine := by omega
theorem op_inA (hu : X.A.units + 200 < cLine) : OpR X (compareOp .In) (rInA X.K false) := by
  intro pins s σ H x y v u Q I rx ry h
  rcases h with ⟨d, e, ds, hd, he, ei, sd, se, dm, q⟩ | ⟨i, j, rfl, rfl, q⟩
  · obtain ⟨as, r1⟩ := Dp.reads I d x v hd rx
    obtain ⟨bs, r2⟩ := Dp.reads I e y u he ry
    rw [Bool.false_xor] at q
    cases e with
    | list xs => cases ei; exact SeqAt.in_list_reads r2 r1 se sd (room_inA dm hu) ⟨.bl _, H, I, rfl, q⟩
    | tuple xs => cases ei; exact SeqAt.in_tuple_reads r2 r1 se sd (room_inA dm hu) ⟨.bl _, H, I, rfl, q⟩
    | _ => cases ei
  · exact op_in_str pins s σ H _ _ v u Q I rx ry ⟨i, j, rfl, rfl, by rw [Bool.false_xor] at q; exact q⟩
theorem op_notInA (hu : X.A.units + 200 < cLine) : OpR X (compareOp .NotIn) (rInA X.K true) := by
  intro pins s σ H x y v u Q I rx ry h
  rcases h with ⟨d, e, ds, hd, he, ei, sd, se, dm, q⟩ | ⟨i, j, rfl, rfl, q⟩
  · obtain ⟨as, r1⟩ := Dp.reads I d x v hd rx
    obtain ⟨bs, r2⟩ := Dp.reads I e y u he ry
    rw [Bool.true_xor] at q
    cases e with
    | list xs => cases ei; exact SeqAt.notIn_list_reads r2 r1 se sd (room_inA dm hu) ⟨.bl _, H, I, rfl, q⟩
    | tuple xs => cases ei; exact SeqAt.notIn_tuple_reads r2 r1 se sd (room_inA dm hu) ⟨.bl _, H, I, rfl, q⟩
    | _ => cases ei
  · exact op_notin_str pins s σ H _ _ v u Q I rx ry ⟨i, j, rfl, rfl, by rw [Bool.true_xor] at q; exact q⟩
theorem r2_in {neg : Bool} : R2m X.K .per (rInA X.K neg) (inM neg) := by
  intro v u H Q d1 d2 d r1 r2 q z
  unfold inM at q
  split at q
  · split at q
    · cases q; exact .inr ⟨_, _, r1.str, r2.str, z _ _ (Same.refl H) (.bl _)⟩
    · cases q
  · obtain ⟨ds, e1, q⟩ := Option.bind_eq_some_iff.mp q
    obtain ⟨⟨c1, c2, c3⟩, rfl⟩ := some_if q
    exact .inl ⟨d1, _, ds, r1.dp, r2.dp, e1, c1, c2, c3, z _ _ (Same.refl H) (.bl _)⟩
/-! is None -/
def isNo : PyData → Bool
  | .none => true
  | _ => false
def isNM (neg : Bool) (a b : PyData) : Option PyData := match b with
  | .none => some (.bool (xor neg (isNo a)))
  | _ => none
theorem isN_dec {K : PySem.W.Frag} {H : Hp} {v : V} {d : PyData} (r : RpA K H v d) : decide (v = .non) = isNo d := by
  cases r with
  | per r => cases r <;> rfl
  | seq _ _ => rfl
theorem r2_isN : R2m X.K .per (fun x y H Q => y = .non ∧ Q (.bl (decide (x = .non))) H) (isNM false) := by
  intro v u H Q d1 d2 d r1 r2 q z
  unfold isNM at q
  split at q
  · cases q
    refine ⟨r2.none, ?_⟩
    rw [isN_dec r1]
    exact z _ _ (Same.refl H) (by rw [Bool.false_xor]; exact .bl _)
  · cases q
theorem r2_notN : R2m X.K .per (fun x y H Q => y = .non ∧ Q (.bl (!decide (x = .non))) H) (isNM true) := by
  intro v u H Q d1 d2 d r1 r2 q z
  unfold isNM at q
  split at q
  · cases q
    refine ⟨r2.none, ?_⟩
    rw [isN_dec r1]
    exact z _ _ (Same.refl H) (by rw [Bool.true_xor]; exact .bl _)
  · cases q
/-! an item -/
def ixM : PyData → PyData → Option PyData
  | .list ds, .int i => atI ds i
  | .tuple ds, .int i => atI ds i
  | .str z, .int i => if z.length ≤ sizeLine then (atI z.cps.toList i).map fun c => .str ⟨#[c]⟩ else none
  | _, _ => none
theorem Rps.atI {K : PySem.W.Frag} {H : Hp} {vs : List V} {ds : List PyData} {i : Int} {d : PyData} (r : Rps K H vs ds) (h : L2.atI ds i = some d) : ∃ v, L2.atI vs i = some v ∧ Rp K H v d := by
  unfold L2.atI at h ⊢
  rw [r.length]
  obtain ⟨j, e1, e2⟩ := Option.bind_eq_some_iff.mp h
  obtain ⟨v, q1, q2⟩ := r.get e2
  exact ⟨v, by rw [e1]; exact q1, q2⟩
theorem r2_ix : R2m X.K .per (rIx X.K) ixM := by
  intro v u H Q d1 d2 d r1 r2 q z
  cases d1 with
  | list ds => cases d2 with
    | int i =>
      obtain ⟨a, vs, rfl, e1, p1⟩ := r1.list
      obtain ⟨w, h1, h2⟩ := p1.atI q
      exact .inl ⟨a, vs, i, w, rfl, r2.int, e1, h1, z _ _ (Same.refl H) h2⟩
    | _ => cases q
  | tuple ds => cases d2 with
    | int i =>
      obtain ⟨a, vs, rfl, e1, p1⟩ := r1.tuple
      obtain ⟨w, h1, h2⟩ := p1.atI q
      exact .inr (.inl ⟨a, vs, i, w, rfl, r2.int, e1, h1, z _ _ (Same.refl H) h2⟩)
    | _ => cases q
  | str x => cases d2 with
    | int i =>
      have q : (if x.length ≤ sizeLine then (L2.atI x.cps.toList i).map (fun c => PyData.str ⟨#[c]⟩) else none) = some d := q
      split at q
      · rename_i hl
        obtain ⟨c, e1, rfl⟩ := Option.map_eq_some_iff.mp q
        exact .inr (.inr ⟨x, i, c, r1.str, r2.int, hl, e1, z _ _ (Same.refl H) (.str _)⟩)
      · cases q
    | _ => cases q
  | _ => cases q
theorem pm_ix {a b : Expr} {ma mb : ME} {k1 k2 : Kd} {pos : Pos} (ha : PEm X xo k1 a ma) (hb : PEm X xo k2 b mb) (hs : PlainIx b := by intro _ _; rfl) : PEm X xo .per (.Subscript a b pos) (mBin ixM ma mb) :=
  (pe_ix ix_seq ha hb hs).weak fun _ _ _ h => tE_bin r2_ix h
end
end PL

namespace PL
open PySem PySem.Spec PyProof.Rows L2
section
variable {X : Cx} {xo : XO} {e a b c o : Expr} {es : List Expr} {k k1 k2 : Kd} {m ma mb : ME} {mt mu : MT} {ms : MA} {ks : List Bool} {pos p : Pos}
/-! ### slices -/
abbrev MO := Rho → Option (Option Int)
def mNo : MO := fun _ => some none
def mSome (m : ME) : MO := fun ρ => (m ρ).bind fun d => match d with
  | .int i => some (some i)
  | _ => none
def tOm (K : PySem.W.Frag) (xo : XO) (m : MO) : TO := fun σ H Q => ∃ ρ o, RdOk K xo H σ ρ ∧ m ρ = some o ∧ ∀ H', Same H H' → Q o H'
abbrev POm (X : Cx) (xo : XO) (e : Option Expr) (m : MO) : Prop := PO X e (tOm X.K xo m)
theorem _root_.L2.PO.weak {X : Cx} {e : Option Expr} {t t' : TO} (h : PO X e t) (w : ∀ σ H Q, t' σ H Q → t σ H Q) : PO X e t' := ⟨fun pins s σ H Q I hw => h.run pins s σ H Q I (w σ H Q hw)⟩
theorem pom_none : POm X xo none mNo := po_none.weak fun σ H Q ⟨ρ, o, R, q, z⟩ => by
  cases q
  exact z H (Same.refl H)
theorem pom_some (h : PEm X xo k e m) : POm X xo (some e) (mSome m) := (po_some h).weak fun σ H Q ⟨ρ, o, R, q, z⟩ => by
  obtain ⟨d, q1, q⟩ := Option.bind_eq_some_iff.mp q
  refine ⟨ρ, d, R, q1, fun v H' s r => ?_⟩
  cases d with
  | int i => cases q; exact ⟨i, r.toAny.int, z H' s⟩
  | _ => cases q
def cutD {α : Type} (xs : List α) (lo hi : Option Int) : List α := (xs.drop (HT.sIx xs.length 0 lo)).take (HT.sIx xs.length xs.length hi - HT.sIx xs.length 0 lo)
def slM (d : PyData) (lo hi : Option Int) : Option PyData := match d with
  | .list xs => some (.list (cutD xs lo hi))
  | .tuple xs => if HT.sIx xs.length 0 lo = 0 ∧ HT.sIx xs.length xs.length hi = xs.length then none else some (.tuple (cutD xs lo hi))
  | .str z => if z.length ≤ sizeLine then some (.str (cutS z lo hi)) else none
  | _ => none
theorem Rps.cut {K : PySem.W.Frag} {H : Hp} {vs : List V} {ds : List PyData} (r : Rps K H vs ds) (lo hi : Option Int) : Rps K H (cutV vs lo hi) (cutD ds lo hi) := by
  unfold cutV cutD
  rw [r.length]
  exact (r.drop _).take _
def rSlA (K : PySem.W.Frag) : V → Option Int → Option Int → Hp → VK → Prop := fun x lo hi H Q => rSlL K x lo hi H Q ∨ (rSlT K x lo hi H Q ∨ rSlS x lo hi H Q)
theorem sl_any : SlR X (rSlA X.K) := SlR.or sl_list (SlR.or sl_tup sl_str)
def mSl (m : ME) (lo hi : MO) : ME := fun ρ => (m ρ).bind fun d => (lo ρ).bind fun l => (hi ρ).bind fun h => slM d l h
theorem pm_sl {lo hi : Option Expr} {ml mh : MO} {p2 : Pos} (he : PEm X xo k1 e m) (hl : POm X xo lo ml) (hu : POm X xo hi mh) : PEm X xo .fre (.Subscript e (.Slice lo hi none p2) pos) (mSl m ml mh) := (pe_slice sl_any he hl hu).weak fun σ H Q ⟨ρ, d, R, q, z⟩ => by
  obtain ⟨x, q1, q⟩ := Option.bind_eq_some_iff.mp q
  obtain ⟨l, q2, q⟩ := Option.bind_eq_some_iff.mp q
  obtain ⟨h, q3, q⟩ := Option.bind_eq_some_iff.mp q
  refine ⟨ρ, x, R, q1, fun v H1 s1 r1 => ⟨ρ, l, R.mono s1, q2, fun H2 s2 => ⟨ρ, h, (R.mono s1).mono s2, q3, fun H3 s3 => ?_⟩⟩⟩
  have r := (r1.toAny.mono s2).mono s3
  have s := (s1.trans s2).trans s3
  cases x with
  | list xs =>
    cases q
    obtain ⟨a, vs, rfl, e1, p1⟩ := r.list
    exact .inl ⟨a, vs, rfl, e1, fun p hp => z _ _ (s.trans (same_new hp _)) (.inr ⟨p, _, _, rfl, rfl, s.free hp, upd_same, (p1.cut l h).mono (firm (same_new hp _))⟩)⟩
  | tuple xs =>
    have q : (if HT.sIx xs.length 0 l = 0 ∧ HT.sIx xs.length xs.length h = xs.length then none else some (PyData.tuple (cutD xs l h))) = some d := q
    split at q
    · cases q
    · rename_i hn
      cases q
      obtain ⟨a, vs, rfl, e1, p1⟩ := r.tuple
      exact .inr (.inl ⟨a, vs, rfl, e1, by rw [p1.length]; exact hn, fun p hp => z _ _ (s.trans (same_new hp _)) (.inl (.tup (.of upd_same) ((p1.cut l h).mono (firm (same_new hp _)))))⟩)
  | str y =>
    obtain ⟨c, rfl⟩ := some_if q
    exact .inr (.inr ⟨y, r.str, c, z _ _ s (.inl (.str _))⟩)
  | _ => cases q
/-! ### built-ins by one value -/
/-- the rule r of one value does f -/
def R1m (K : PySem.W.Frag) (k : Kd) (r : List V → Hp → VK → Prop) (f : PyData → Option PyData) : Prop := ∀ v H Q d1 d, RpA K H v d1 → f d1 = some d → (∀ v' H', Same H H' → RK K k H H' v' d → Q v' H') → r [v] H Q
def R2c (K : PySem.W.Frag) (k : Kd) (r : List V → Hp → VK → Prop) (f : PyData → PyData → Option PyData) : Prop := ∀ v u H Q d1 d2 d, RpA K H v d1 → RpA K H u d2 → f d1 d2 = some d → (∀ v' H', Same H H' → RK K k H H' v' d → Q v' H') → r [v, u] H Q
theorem tE_un {r : List V → Hp → VK → Prop} {f : PyData → Option PyData} (hr : R1m X.K k r f) {σ : L2.St} {H : Hp} {Q : VK} (h : tE X.K xo k (mUn f ma) σ H Q) : tCB r (tCons (tE X.K xo k1 ma) tNil) σ H Q := by
  obtain ⟨ρ, d, R, q, z⟩ := h
  obtain ⟨x, q1, q⟩ := Option.bind_eq_some_iff.mp q
  exact ⟨ρ, x, R, q1, fun v H1 s1 r1 => hr v H1 Q x d r1.toAny q fun v' H' s r' => z v' H' (s1.trans s) (r'.back s1)⟩
theorem tE_bi {r : List V → Hp → VK → Prop} {f : PyData → PyData → Option PyData} (hr : R2c X.K k r f) {σ : L2.St} {H : Hp} {Q : VK} (h : tE X.K xo k (mBin f ma mb) σ H Q) : tCB r (tCons (tE X.K xo k1 ma) (tCons (tE X.K xo k2 mb) tNil)) σ H Q := by
  obtain ⟨ρ, d, R, q, z⟩ := h
  obtain ⟨x, q1, q⟩ := Option.bind_eq_some_iff.mp q
  obtain ⟨y, q2, q⟩ := Option.bind_eq_some_iff.mp q
  exact ⟨ρ, x, R, q1, fun v H1 s1 r1 => ⟨ρ, y, R.mono s1, q2, fun u H2 s2 r2 => hr v u H2 Q x y d (r1.toAny.mono s2) r2.toAny q fun v' H' s r' => z v' H' ((s1.trans s2).trans s) (r'.back (s1.trans s2))⟩⟩
theorem pm_b1 {x : Str} {id : String} {r : List V → Hp → VK → Prop} {f : PyData → Option PyData} (hc : CallR X (.builtin id) r) (hr : R1m X.K k r f) (hv : bootBuiltins x = some (.builtin id)) (hm : X.mg x = none) (hg : Gl X x) (ha : PEm X xo k1 e m)
    (hs : starEach [e] X.env = [(false, eval e X.env)] := by rfl) (hn : x ≠ "__name__" := by decide) (hdb : (x == ("__debug__" : Str)) = false := by decide) : PEm X xo k (.Call (.Name x p) [e] [] pos) (mUn f m) :=
  (pe_callB hc hg hm hv (pa_cons ha pa_nil hs) hn hdb hs).weak fun _ _ _ h => tE_un hr h
theorem pm_t1 {x : Str} {T : String} {r : List V → Hp → VK → Prop} {f : PyData → Option PyData} (hc : CallR X (.type T) r) (hr : R1m X.K k r f) (hv : bootBuiltins x = some (.type T)) (hm : X.mg x = none) (hg : Gl X x) (ha : PEm X xo k1 e m)
    (hs : starEach [e] X.env = [(false, eval e X.env)] := by rfl) (hn : x ≠ "__name__" := by decide) (hdb : (x == ("__debug__" : Str)) = false := by decide) : PEm X xo k (.Call (.Name x p) [e] [] pos) (mUn f m) :=
  (pe_callTy hc hg hm hv (pa_cons ha pa_nil hs) hn hdb hs).weak fun _ _ _ h => tE_un hr h
theorem pm_b2 {x : Str} {id : String} {r : List V → Hp → VK → Prop} {f : PyData → PyData → Option PyData} (hc : CallR X (.builtin id) r) (hr : R2c X.K k r f) (hv : bootBuiltins x = some (.builtin id)) (hm : X.mg x = none) (hg : Gl X x) (ha : PEm X xo k1 a ma) (hb : PEm X xo k2 b mb)
    (hs : starEach [a, b] X.env = (false, eval a X.env) :: starEach [b] X.env := by rfl) (hs2 : starEach [b] X.env = [(false, eval b X.env)] := by rfl) (hn : x ≠ "__name__" := by decide) (hdb : (x == ("__debug__" : Str)) = false := by decide) : PEm X xo k (.Call (.Name x p) [a, b] [] pos) (mBin f ma mb) :=
  (pe_callB hc hg hm hv (pa_cons ha (pa_cons hb pa_nil hs2) hs) hn hdb hs (by rw [hs2]; rfl)).weak fun _ _ _ h => tE_bi hr h
def lenM : PyData → Option PyData
  | .list ds => some (.int ds.length)
  | .tuple ds => some (.int ds.length)
  | .str z => if z.length ≤ sizeLine then some (.int z.length) else none
  | _ => none
theorem r1_len : R1m X.K .per (fun xs H Q => ∃ x n, xs = [x] ∧ LenV X.K x H n ∧ Q (.int n) H) lenM := by
  intro v H Q d1 d r q z
  cases d1 with
  | list ds =>
    cases q
    obtain ⟨a, vs, rfl, e1, p1⟩ := r.list
    exact ⟨_, ds.length, rfl, .inl ⟨vs, e1, p1.length.symm⟩, z _ _ (Same.refl H) (.int _)⟩
  | tuple ds =>
    cases q
    obtain ⟨a, vs, rfl, e1, p1⟩ := r.tuple
    exact ⟨_, ds.length, rfl, .inr ⟨vs, e1, p1.length.symm⟩, z _ _ (Same.refl H) (.int _)⟩
  | str x =>
    obtain ⟨c, rfl⟩ := some_if q
    rw [r.str]
    exact ⟨_, x.length, rfl, ⟨c, rfl⟩, z _ _ (Same.refl H) (.int _)⟩
  | _ => cases q
theorem pm_len (hm : X.mg "len" = none) (hg : Gl X "len") (ha : PEm X xo k1 e m) (hs : starEach [e] X.env = [(false, eval e X.env)] := by rfl) : PEm X xo .per (.Call (.Name "len" p) [e] [] pos) (mUn lenM m) := pm_b1 call_len r1_len boot_len hm hg ha hs
def listM (d : PyData) : Option PyData := (itemsOf d).map .list
theorem RpA.items {K : PySem.W.Frag} {H : Hp} {v : V} {d : PyData} {ds : List PyData} (r : RpA K H v d) (q : itemsOf d = some ds) : ∃ a vs, v = .ref a ∧ (SqL K H a vs ∨ SqT K H a vs) ∧ Rps K H vs ds := by
  cases d with
  | list xs => cases q; obtain ⟨a, vs, e0, e1, p1⟩ := r.list; exact ⟨a, vs, e0, .inl e1, p1⟩
  | tuple xs => cases q; obtain ⟨a, vs, e0, e1, p1⟩ := r.tuple; exact ⟨a, vs, e0, .inr e1, p1⟩
  | _ => cases q
theorem r1_list : R1m X.K .new (fun xs H Q => ∃ p ys, xs = [.ref p] ∧ (SqL X.K H p ys ∨ SqT X.K H p ys) ∧ ∀ l, H l = none → Q (.ref l) (upd H l (.lst ys))) listM := by
  intro v H Q d1 d r q z
  obtain ⟨ds, q1, rfl⟩ := Option.map_eq_some_iff.mp q
  obtain ⟨a, vs, rfl, e1, p1⟩ := r.items q1
  exact ⟨a, vs, rfl, e1, fun p hp => z _ _ (same_new hp _) ⟨p, _, _, rfl, rfl, hp, upd_same, p1.mono (firm (same_new hp _))⟩⟩
theorem pm_list (hm : X.mg "list" = none) (hg : Gl X "list") (ha : PEm X xo k1 e m) (hs : starEach [e] X.env = [(false, eval e X.env)] := by rfl) : PEm X xo .new (.Call (.Name "list" p) [e] [] pos) (mUn listM m) := pm_t1 call_list_of r1_list boot_list hm hg ha hs
def tupleM (d : PyData) : Option PyData := (itemsOf d).map .tuple
theorem r1_tuple : R1m X.K .per (fun xs H Q => ∃ p ys, xs = [.ref p] ∧ ((SqL X.K H p ys ∧ ∀ l, H l = none → Q (.ref l) (upd H l (.tup ys))) ∨ (SqT X.K H p ys ∧ Q (.ref p) H))) tupleM := by
  intro v H Q d1 d r q z
  obtain ⟨ds, q1, rfl⟩ := Option.map_eq_some_iff.mp q
  obtain ⟨a, vs, rfl, e1, p1⟩ := r.items q1
  rcases e1 with e1 | e1
  · exact ⟨a, vs, rfl, .inl ⟨e1, fun p hp => z _ _ (same_new hp _) (.tup (.of upd_same) (p1.mono (firm (same_new hp _))))⟩⟩
  · exact ⟨a, vs, rfl, .inr ⟨e1, z _ _ (Same.refl H) (.tup e1 p1)⟩⟩
theorem pm_tuple (hm : X.mg "tuple" = none) (hg : Gl X "tuple") (ha : PEm X xo k1 e m) (hs : starEach [e] X.env = [(false, eval e X.env)] := by rfl) : PEm X xo .per (.Call (.Name "tuple" p) [e] [] pos) (mUn tupleM m) := pm_t1 call_tuple_of r1_tuple boot_tuple hm hg ha hs
def intM : PyData → Option PyData
  | .int i => some (.int i)
  | .bool k => some (.int (if k then 1 else 0))
  | .str x => if x.length ≤ 640 then (PySem.intText? x).map .int else none
  | _ => none
theorem r1_int : R1m X.K .per (fun xs H Q => ((∃ i, xs = [.int i] ∧ Q (.int i) H) ∨ ∃ k, xs = [.bl k] ∧ Q (.int (if k then 1 else 0)) H) ∨ ∃ a n, xs = [.str a] ∧ PySem.intText? a = some n ∧ a.length ≤ 640 ∧ Q (.int n) H) intM := by
  intro v H Q d1 d r q z
  cases d1 with
  | int i => cases q; exact .inl (.inl ⟨i, by rw [r.int], z _ _ (Same.refl H) (.int _)⟩)
  | bool i => cases q; exact .inl (.inr ⟨i, by rw [r.bool], z _ _ (Same.refl H) (.int _)⟩)
  | str x =>
    have q : (if x.length ≤ 640 then (PySem.intText? x).map PyData.int else none) = some d := q
    split at q
    · rename_i hl
      obtain ⟨n, q1, rfl⟩ := Option.map_eq_some_iff.mp q
      exact .inr ⟨x, n, by rw [r.str], q1, hl, z _ _ (Same.refl H) (.int _)⟩
    · cases q
  | _ => cases q
theorem pm_toint (hm : X.mg "int" = none) (hg : Gl X "int") (ha : PEm X xo k1 e m) (hs : starEach [e] X.env = [(false, eval e X.env)] := by rfl) : PEm X xo .per (.Call (.Name "int" p) [e] [] pos) (mUn intM m) := pm_t1 (CallR.or call_int1 call_int_str) r1_int boot_int hm hg ha hs
def strM : PyData → Option PyData
  | .int i => if i.natAbs.log2 < 1920 then some (.str (toString i)) else none
  | _ => none
theorem r1_str : R1m X.K .per (fun xs H Q => ∃ i, xs = [.int i] ∧ i.natAbs.log2 < 1920 ∧ Q (.str (toString i)) H) strM := by
  intro v H Q d1 d r q z
  cases d1 with
  | int i =>
    obtain ⟨c, rfl⟩ := some_if q
    exact ⟨i, by rw [r.int], c, z _ _ (Same.refl H) (.str _)⟩
  | _ => cases q
theorem pm_tostr (hm : X.mg "str" = none) (hg : Gl X "str") (ha : PEm X xo k1 e m) (hs : starEach [e] X.env = [(false, eval e X.env)] := by rfl) : PEm X xo .per (.Call (.Name "str" p) [e] [] pos) (mUn strM m) := pm_t1 call_str_int r1_str boot_str hm hg ha hs
def ordM : PyData → Option PyData
  | .str x => if x.length = 1 then some (.int (x.cps.getD 0 0 : Nat)) else none
  | _ => none
theorem r1_ord : R1m X.K .per (fun xs H Q => ∃ x, xs = [.str x] ∧ x.length = 1 ∧ Q (.int (x.cps.getD 0 0 : Nat)) H) ordM := by
  intro v H Q d1 d r q z
  cases d1 with
  | str i =>
    obtain ⟨c, rfl⟩ := some_if q
    exact ⟨i, by rw [r.str], c, z _ _ (Same.refl H) (.int _)⟩
  | _ => cases q
theorem pm_ord (hm : X.mg "ord" = none) (hg : Gl X "ord") (ha : PEm X xo k1 e m) (hs : starEach [e] X.env = [(false, eval e X.env)] := by rfl) : PEm X xo .per (.Call (.Name "ord" p) [e] [] pos) (mUn ordM m) := pm_b1 call_ord r1_ord boot_ord hm hg ha hs
def maxM : PyData → PyData → Option PyData := int2 fun i j => some (.int (if j > i then j else i))
def minM : PyData → PyData → Option PyData := int2 fun i j => some (.int (if j < i then j else i))
theorem r2_max : R2c X.K .per (fun xs H Q => ∃ i j, xs = [.int i, .int j] ∧ Q (.int (if j > i then j else i)) H) maxM := by
  intro v u H Q d1 d2 d r1 r2 q z
  obtain ⟨i, j, rfl, rfl, q⟩ := int2_some q
  cases q
  exact ⟨i, j, by rw [r1.int, r2.int], z _ _ (Same.refl H) (.int _)⟩
theorem r2_min : R2c X.K .per (fun xs H Q => ∃ i j, xs = [.int i, .int j] ∧ Q (.int (if j < i then j else i)) H) minM := by
  intro v u H Q d1 d2 d r1 r2 q z
  obtain ⟨i, j, rfl, rfl, q⟩ := int2_some q
  cases q
  exact ⟨i, j, by rw [r1.int, r2.int], z _ _ (Same.refl H) (.int _)⟩
theorem pm_max (hc : X.calm = true) (hm : X.mg "max" = none) (hg : Gl X "max") (ha : PEm X xo k1 a ma) (hb : PEm X xo k2 b mb) (hs : starEach [a, b] X.env = (false, eval a X.env) :: starEach [b] X.env := by rfl) (hs2 : starEach [b] X.env = [(false, eval b X.env)] := by rfl) : PEm X xo .per (.Call (.Name "max" p) [a, b] [] pos) (mBin maxM ma mb) :=
  pm_b2 (call_max2 hc) r2_max boot_max hm hg ha hb hs hs2
theorem pm_min (hc : X.calm = true) (hm : X.mg "min" = none) (hg : Gl X "min") (ha : PEm X xo k1 a ma) (hb : PEm X xo k2 b mb) (hs : starEach [a, b] X.env = (false, eval a X.env) :: starEach [b] X.env := by rfl) (hs2 : starEach [b] X.env = [(false, eval b X.env)] := by rfl) : PEm X xo .per (.Call (.Name "min" p) [a, b] [] pos) (mBin minM ma mb) :=
  pm_b2 (call_min2 hc) r2_min boot_min hm hg ha hb hs hs2
/-! ### isinstance of a built-in class -/
def tyName : PyData → String
  | .none => "NoneType"
  | .bool _ => "bool"
  | .int _ => "int"
  | .str _ => "str"
  | .list _ => "list"
  | .tuple _ => "tuple"
  | .dict _ => "dict"
def isiM (T : String) (d : PyData) : Option PyData := (kitB (tyName d) T).map .bool
theorem RpA.ty {K : PySem.W.Frag} {H : Hp} {v : V} {d : PyData} (r : RpA K H v d) : TyX K H v (.type (tyName d)) := by
  cases r with
  | per r => cases r with
    | non => exact .base .non
    | bl b => exact .base (.bl b)
    | int i => exact .base (.int i)
    | str x => exact .base (.str x)
    | lst e _ => exact .base (.frz e)
    | tup e _ =>
      rcases e with (e | ⟨o, e⟩) | ⟨o, its, n, e, c, _⟩
      · exact .base (.tup e)
      · exact .fTuple e
      · exact .kTuple e c
  | seq e _ =>
    rcases e with (e | ⟨o, e⟩) | ⟨o, its, n, e, c, _⟩
    · exact .base (.lst e)
    · exact .base (.frz e)
    · exact .kList e c
theorem pm_isi {x : Str} {T : String} {p2 : Pos} (hm : X.mg "isinstance" = none) (hg : Gl X "isinstance") (hv : bootBuiltins x = some (.type T)) (hmx : X.mg x = none) (hgx : Gl X x) (ha : PEm X xo k1 e m)
    (hs : starEach [e, .Name x p2] X.env = (false, eval e X.env) :: starEach [.Name x p2] X.env := by rfl) (hs2 : starEach [.Name x p2] X.env = [(false, eval (.Name x p2) X.env)] := by rfl) (hnx : x ≠ "__name__" := by decide) (hdx : (x == ("__debug__" : Str)) = false := by decide) :
    PEm X xo .per (.Call (.Name "isinstance" p) [e, .Name x p2] [] pos) (mUn (isiM T) m) :=
  (pe_callB call_isi hg hm boot_isinstance (pa_cons ha (pa_cons (pe_bltn (v := .ty T) hgx hmx hv rfl hnx hdx) pa_nil hs2) hs) (by decide) (by decide) hs (by rw [hs2]; rfl)).weak fun σ H Q ⟨ρ, d, R, q, z⟩ => by
    obtain ⟨y, q1, q⟩ := Option.bind_eq_some_iff.mp q
    obtain ⟨b, q2, rfl⟩ := Option.map_eq_some_iff.mp q
    exact ⟨ρ, y, R, q1, fun v H1 s1 r1 => ⟨v, .ty T, _, _, b, rfl, .ty T, r1.toAny.ty, kit_ty q2, z _ _ s1 (.bl _)⟩⟩
/-! ### sep.join(texts), text.count(text) -/
def strsOf : List PyData → Option (List Str)
  | [] => some []
  | .str x :: ds => (strsOf ds).map (x :: ·)
  | _ :: _ => none
def joinM (a b : PyData) : Option PyData := match a with
  | .str x => (itemsOf b).bind fun ds => (strsOf ds).bind fun ys => if (ys.map (·.length)).sum + ys.length * x.length ≤ 16777216 then some (.str (Txt.join x ys)) else none
  | _ => none
theorem Rps.strs {K : PySem.W.Frag} {H : Hp} : ∀ {vs : List V} {ds : List PyData} {ys : List Str}, Rps K H vs ds → strsOf ds = some ys → vs = ys.map V.str
  | _, _, _, .nil, q => by cases q; rfl
  | _, _, _, .cons r t, q => by
    cases r with
    | str x =>
      obtain ⟨zs, q1, rfl⟩ := Option.map_eq_some_iff.mp q
      rw [t.strs q1]
      rfl
    | _ => cases q
theorem pm_join {apos : Pos} (ho : PEm X xo k1 o ma) (he : PEm X xo k2 e mb) (hs : starEach [e] X.env = [(false, eval e X.env)] := by rfl) (hbase : attributeBase o "join" X.env (eval o X.env) = eval o X.env := by rfl) (hline : (apos.endLine == pos.line) = true := by rfl) :
    PEm X xo .per (.Call (.Attribute o "join" apos) [e] [] pos) (mBin joinM ma mb) := (pe_join ho he hs hbase hline).weak fun σ H Q ⟨ρ, d, R, q, z⟩ => by
  obtain ⟨x, q1, q⟩ := Option.bind_eq_some_iff.mp q
  obtain ⟨y, q2, q⟩ := Option.bind_eq_some_iff.mp q
  cases x with
  | str x =>
    obtain ⟨ds, q3, q⟩ := Option.bind_eq_some_iff.mp q
    obtain ⟨ys, q4, q⟩ := Option.bind_eq_some_iff.mp q
    obtain ⟨c, rfl⟩ := some_if q
    refine ⟨ρ, _, R, q1, fun v H1 s1 r1 => ?_⟩
    have e1 := r1.toAny.str
    subst e1
    refine ⟨⟨_, rfl⟩, ρ, y, R.mono s1, q2, fun u H2 s2 r2 => ?_⟩
    obtain ⟨a, vs, rfl, e2, p2⟩ := r2.toAny.items q3
    have e3 := p2.strs q4
    subst e3
    exact ⟨x, a, ys, rfl, rfl, e2, c, z _ _ (s1.trans s2) (.str _)⟩
  | _ => cases q
end
end PL

namespace PL
open PySem PySem.Spec PyProof.Rows L2
/-! ### statements' mirrors -/
inductive Out where
  | nx (ρ : Rho) | rt (d : PyData) (ρ : Rho) | bk (ρ : Rho) | ct (ρ : Rho) | ex (c : Str) (ρ : Rho) | stuck
abbrev MS := Rho → Out
/-- a value handed back: it stays, or is a new list of nobody -/
def RKr (K : PySem.W.Frag) (rk : Kd) (B : Bd) (H' : Hp) (φ' : Nat → Addr → Prop) (v : V) (d : PyData) : Prop := match rk with
  | .per => Rp K H' v d
  | _ => Rp K H' v d ∨ ∃ a xs ds, v = .ref a ∧ d = .list ds ∧ B.H0 a = none ∧ H' a = some (.lst xs) ∧ Rps K H' xs ds ∧ ∀ j, B.io j ≠ none → ¬ φ' j a
/-- how the heap moves on: what is no slot's own stands -/
structure Ev (H : Hp) (φ : Nat → Addr → Prop) (H' : Hp) (φ' : Nat → Addr → Prop) : Prop where
  st : ∀ b o, (¬ ∃ j, φ j b) → H b = some o → H' b = some o
  sub : ∀ j b, φ' j b → (∃ l, φ l b) ∨ H b = none
theorem Ev.refl (H : Hp) (φ : Nat → Addr → Prop) : Ev H φ H φ := ⟨fun _ _ _ h => h, fun j _ h => .inl ⟨j, h⟩⟩
theorem Ev.trans {H H1 H2 : Hp} {φ φ1 φ2 : Nat → Addr → Prop} (a : Ev H φ H1 φ1) (b : Ev H1 φ1 H2 φ2) : Ev H φ H2 φ2 := by
  refine ⟨fun c o n h => b.st c o (fun ⟨j, z⟩ => ?_) (a.st c o n h), fun j c h => ?_⟩
  · rcases a.sub j c z with z | z
    · exact n z
    · rw [h] at z; cases z
  · rcases b.sub j c h with ⟨l, z⟩ | z
    · exact a.sub l c z
    · by_cases n : ∃ j, φ j c
      · exact .inl n
      · refine .inr ?_
        cases q : H c with
        | none => rfl
        | some o => rw [a.st c o n q] at z; cases z
theorem Ev.same {H H' : Hp} {φ : Nat → Addr → Prop} (s : Same H H') : Ev H φ H' φ := ⟨fun b o _ h => s b o h, fun j _ h => .inl ⟨j, h⟩⟩
theorem Ev.firm {K : PySem.W.Frag} {B : Bd} {H H' : Hp} {σ : L2.St} {ρ : Rho} {φ φ' : Nat → Addr → Prop} (v : Ev H φ H' φ') (h : EnvOk K B H σ ρ φ) : Firm H H' :=
  ⟨fun b xs q => v.st b _ (fun ⟨j, z⟩ => by obtain ⟨o, q', so⟩ := h.there z; rw [q] at q'; cases q'; exact so) q, fun b o u q => v.st b _ (fun ⟨j, z⟩ => by obtain ⟨o, q', so⟩ := h.there z; rw [q] at q'; cases q'; exact so) q⟩
def Post (K : PySem.W.Frag) (B : Bd) (W : WX) (rk : Kd) (D : Ends) (H0 : Hp) (φ0 : Nat → Addr → Prop) : Out → Prop
  | .nx ρ => ∀ σ H φ, EnvOk K B H σ ρ φ → Ev H0 φ0 H φ → D.nx σ H
  | .bk ρ => ∀ σ H φ, EnvOk K B H σ ρ φ → Ev H0 φ0 H φ → D.bk σ H
  | .ct ρ => ∀ σ H φ, EnvOk K B H σ ρ φ → Ev H0 φ0 H φ → D.ct σ H
  | .rt d ρ => ∀ v σ H φ, EnvOk K B H σ ρ φ → RKr K rk B H φ v d → D.rt v H
  | .ex c ρ => ∀ σ H φ, EnvOk K B H σ ρ φ → Ev H0 φ0 H φ → W (.ref (He.ga K c)) none σ H
  | .stuck => False
theorem Post.mono {K : PySem.W.Frag} {B : Bd} {W : WX} {rk : Kd} {D : Ends} {H H1 : Hp} {φ φ1 : Nat → Addr → Prop} {o : Out} (h : Post K B W rk D H φ o) (v : Ev H φ H1 φ1) : Post K B W rk D H1 φ1 o := by
  cases o with
  | nx ρ => exact fun σ H' φ' E w => h σ H' φ' E (v.trans w)
  | bk ρ => exact fun σ H' φ' E w => h σ H' φ' E (v.trans w)
  | ct ρ => exact fun σ H' φ' E w => h σ H' φ' E (v.trans w)
  | ex c ρ => exact fun σ H' φ' E w => h σ H' φ' E (v.trans w)
  | rt d ρ => exact h
  | stuck => exact h
def tS (K : PySem.W.Frag) (B : Bd) (W : WX) (rk : Kd) (m : MS) : TS := fun D σ H => ∃ ρ φ, EnvOk K B H σ ρ φ ∧ Post K B W rk D H φ (m ρ)
abbrev PSm (X : Cx) (B : Bd) (W : WX) (rk : Kd) (st : Stmt) (m : MS) : Prop := PS X st (tS X.K B W rk m)
abbrev PSsm (X : Cx) (B : Bd) (W : WX) (rk : Kd) (st : List Stmt) (m : MS) : Prop := PSs X st (tS X.K B W rk m)
section
variable {X : Cx} {B : Bd} {W : WX} {rk : Kd} {st : Stmt} {rest body els : List Stmt} {e : Expr} {m ma : ME} {mt : MT} {s1 s2 : MS} {k : Kd} {pos : Pos}
def sSkip : MS := .nx
def sSeq (a b : MS) : MS := fun ρ => match a ρ with
  | .nx ρ' => b ρ'
  | o => o
theorem sm_nil : PSsm X B W rk [] sSkip := pss_nil.weak fun D σ H ⟨ρ, φ, E, q⟩ => q σ H φ E (Ev.refl _ _)
theorem sm_cons (h1 : PSm X B W rk st s1) (h2 : PSsm X B W rk rest s2) : PSsm X B W rk (st :: rest) (sSeq s1 s2) := (pss_cons h1 h2).weak fun D σ H ⟨ρ, φ, E, q⟩ => by
  refine ⟨ρ, φ, E, ?_⟩
  unfold sSeq at q
  cases h : s1 ρ with
  | nx ρ' => rw [h] at q; exact fun σ' H' φ' E' v => ⟨ρ', φ', E', q.mono v⟩
  | _ => rw [h] at q; exact q
theorem sm_one (h1 : PSm X B W rk st s1) : PSsm X B W rk [st] s1 := pss_one h1
/-- name = a value that stays -/
def sAsg (i : Nat) (m : ME) : MS := fun ρ => match ρ[i]? with
  | some (.o _) => .stuck
  | _ => match m ρ with
    | some d => .nx (ρ.set i (.d d))
    | none => .stuck
theorem notO {ρ : Rho} {i : Nat} {α : Type} {f : Option Sl → α} {x y : α} (h : (match ρ[i]? with
    | some (.o _) => x
    | _ => y) ≠ x) : ∀ ob, ρ[i]? ≠ some (.o ob) := fun ob e => by rw [e] at h; exact h rfl
theorem sAsg_ok {i : Nat} {ρ : Rho} (h : sAsg i m ρ ≠ .stuck) : (∀ ob, ρ[i]? ≠ some (.o ob)) ∧ ∃ d, m ρ = some d ∧ sAsg i m ρ = .nx (ρ.set i (.d d)) := by
  unfold sAsg at h ⊢
  split at h
  · exact absurd rfl h
  · rename_i hn
    cases q : m ρ with
    | none => rw [q] at h; exact absurd rfl h
    | some d => exact ⟨fun ob e => hn ob e, d, rfl, rfl⟩
theorem Post.ns {K : PySem.W.Frag} {D : Ends} {H : Hp} {φ : Nat → Addr → Prop} {o : Out} (h : Post K B W rk D H φ o) : o ≠ .stuck := fun e => by subst e; exact h
theorem sm_set {i : Nat} {x : Str} {pos' : Pos} (hN : X.N.Nodup) (hi : X.N[i]? = some x) (hx : Loc X.env.scope x) (he : PEm X B.xo .per e m) (hs : swapsWith e (some (.Name x pos')) pos.line X.env = pure false := by rfl)
    (hf : X.fn x = true ∨ X.env.scope.names.lookup x = some .local := by first | exact .inl rfl | exact .inr rfl | assumption) : PSm X B W rk (.Assign [.Name x pos'] e pos) (sAsg i m) :=
  (ps_set hN hi hx he hs hf).weak fun D σ H ⟨ρ, φ, E, q⟩ => by
    obtain ⟨hn, d, h1, h2⟩ := sAsg_ok q.ns
    rw [h2] at q
    exact ⟨ρ, d, E.rd, h1, fun v H' s r => q _ _ _ ((E.same s).setD hn r) (Ev.same s)⟩
/-- name = a new list, the slot's own from here on -/
def sNew (i : Nat) (m : ME) : MS := fun ρ => match ρ[i]? with
  | some (.o _) => .stuck
  | none => .stuck
  | _ => match m ρ with
    | some (.list ds) => .nx (ρ.set i (.o (.lst ds)))
    | _ => .stuck
theorem sNew_ok {i : Nat} {ρ : Rho} (h : sNew i m ρ ≠ .stuck) : (∀ ob, ρ[i]? ≠ some (.o ob)) ∧ i < ρ.length ∧ ∃ ds, m ρ = some (.list ds) ∧ sNew i m ρ = .nx (ρ.set i (.o (.lst ds))) := by
  unfold sNew at h ⊢
  cases e : ρ[i]? with
  | none => rw [e] at h; exact absurd rfl h
  | some s =>
    have hl := (List.getElem?_eq_some_iff.mp e).1
    rw [e] at h
    cases s with
    | o ob => exact absurd rfl h
    | _ =>
      refine ⟨(by intro ob z; cases z), hl, ?_⟩
      cases q : m ρ with
      | none => rw [q] at h; exact absurd rfl h
      | some d =>
        cases d with
        | list ds => exact ⟨ds, rfl, rfl⟩
        | _ => rw [q] at h; exact absurd rfl h
theorem sm_new {i : Nat} {x : Str} {pos' : Pos} (hN : X.N.Nodup) (hi : X.N[i]? = some x) (hx : Loc X.env.scope x) (he : PEm X B.xo .new e m) (hs : swapsWith e (some (.Name x pos')) pos.line X.env = pure false := by rfl)
    (hf : X.fn x = true ∨ X.env.scope.names.lookup x = some .local := by first | exact .inl rfl | exact .inr rfl | assumption) : PSm X B W rk (.Assign [.Name x pos'] e pos) (sNew i m) :=
  (ps_set hN hi hx he hs hf).weak fun D σ H ⟨ρ, φ, E, q⟩ => by
    obtain ⟨hn, hl, ds, h1, h2⟩ := sNew_ok q.ns
    rw [h2] at q
    refine ⟨ρ, _, E.rd, h1, fun v H' s ⟨a, xs, es, ev, ed, n, ha, r⟩ => ?_⟩
    subst ev
    cases ed
    exact q _ _ _ (E.setNew hn hl s n ha r) ⟨fun b o _ h => s b o h, fun j b z => z.elim (fun z => .inr (by rw [z.2]; exact n)) fun z => .inl ⟨j, z⟩⟩
def sRet (m : ME) : MS := fun ρ => match m ρ with
  | some d => .rt d ρ
  | none => .stuck
theorem sm_ret (he : PEm X B.xo .per e m) : PSm X B W rk (.Return (some e) pos) (sRet m) := (ps_ret he).weak fun D σ H ⟨ρ, φ, E, q⟩ => by
  unfold sRet at q
  cases h : m ρ with
  | none => rw [h] at q; exact q.elim
  | some d =>
    rw [h] at q
    refine ⟨ρ, d, E.rd, h, fun v H' s r => q v σ H' φ (E.same s) ?_⟩
    cases rk with
    | per => exact r
    | _ => exact .inl r
/-- a new list handed back as it is -/
theorem sm_retF (he : PEm X B.xo .fre e m) : PSm X B W .fre (.Return (some e) pos) (sRet m) := (ps_ret he).weak fun D σ H ⟨ρ, φ, E, q⟩ => by
  unfold sRet at q
  cases h : m ρ with
  | none => rw [h] at q; exact q.elim
  | some d =>
    rw [h] at q
    refine ⟨ρ, d, E.rd, h, fun v H' s r => q v σ H' φ (E.same s) ?_⟩
    rcases r with r | ⟨a, xs, ds, e1, e2, n, ha, r⟩
    · exact .inl r
    · exact .inr ⟨a, xs, ds, e1, e2, (E.new0 n).1, ha, r, fun j _ z => by obtain ⟨o, q, _⟩ := E.there z; rw [n] at q; cases q⟩
def sIf (t : MT) (a b : MS) : MS := fun ρ => match t ρ with
  | some true => a ρ
  | some false => b ρ
  | none => .stuck
theorem sm_if {c : Expr} (hc : PTm X B.xo c mt) (ha : PSsm X B W rk body s1) (hb : PSsm X B W rk els s2) : PSm X B W rk (.If c body els pos) (sIf mt s1 s2) := (ps_if hc ha hb).weak fun D σ H ⟨ρ, φ, E, q⟩ => by
  unfold sIf at q
  cases h : mt ρ with
  | none => rw [h] at q; exact q.elim
  | some b =>
    rw [h] at q
    cases b with
    | true => exact ⟨ρ, true, E.rd, h, fun H' s => ⟨ρ, φ, E.same s, q.mono (Ev.same s)⟩⟩
    | false => exact ⟨ρ, false, E.rd, h, fun H' s => ⟨ρ, φ, E.same s, q.mono (Ev.same s)⟩⟩
def sNever : MS := fun _ => .stuck
theorem sm_never : PSm X B W rk st sNever := ps_never.weak fun D σ H ⟨ρ, φ, E, q⟩ => q
theorem sms_never : PSsm X B W rk rest sNever := pss_never.weak fun D σ H ⟨ρ, φ, E, q⟩ => q
theorem sm_pass : PSm X B W rk (.Pass pos) sSkip := ps_pass.weak fun D σ H ⟨ρ, φ, E, q⟩ => q σ H φ E (Ev.refl _ _)
/-! own lists: append -/
theorem EnvOk.turn {K : PySem.W.Frag} {H H' : Hp} {σ : L2.St} {ρ : Rho} {φ : Nat → Addr → Prop} {i : Nat} {x : Addr} {ob ob' : Ob} {fp : Addr → Prop} (h : EnvOk K B H σ ρ φ) (hi : ρ[i]? = some (.o ob)) (hσ : σ[i]? = some (some (.ref x)))
    (k : ∀ b o, ¬ φ i b → H b = some o → H' b = some o) (r : OwnRep K H' fp x ob') (sub : ∀ b, fp b → φ i b ∨ H b = none) (st : ∀ b, φ i b → ∃ o, H' b = some o) :
    EnvOk K B H' σ (ρ.set i (.o ob')) (fun j => if j = i then fp else φ j) := by
  have f : Firm H H' := ⟨fun b xs q => k b _ (fun z => by obtain ⟨o, q', so⟩ := h.there z; rw [q] at q'; cases q'; exact so) q, fun b o u q => k b _ (fun z => by obtain ⟨o, q', so⟩ := h.there z; rw [q] at q'; cases q'; exact so) q⟩
  have hl : i < ρ.length := (List.getElem?_eq_some_iff.mp hi).1
  have old : ∀ j b, φ j b → ∃ o, H b = some o := fun j b z => let ⟨o, q, _⟩ := h.there z; ⟨o, q⟩
  refine ⟨by simp [h.len], fun j s q => ?_, fun j q b hb => ?_, fun j l b hj hk => ?_, fun b o n q => ?_, fun b z => ?_, fun j b hb => ?_, fun j y q => ?_, h.xo.setR i (fun c z => by cases z)⟩
  · by_cases ej : i = j
    · subst ej
      rw [List.getElem?_set_self hl] at q
      cases q
      rw [hσ]
      simp only [if_true]
      exact .o r
    · rw [List.getElem?_set_ne ej] at q
      have z := h.sl j s q
      simp only [if_neg (Ne.symm ej)]
      generalize σ[j]? = v at z
      cases z with
      | nil z => exact .nil z
      | d r z => exact .d (r.mono f) z
      | b q' r z =>
        refine .b (q'.imp (fun ⟨rd, na⟩ => ⟨?_, fun ⟨l, hl⟩ => ?_⟩) id) (r.mono f) z
        · rcases rd with y | ⟨o, y⟩
          · exact .inl (k _ _ (fun z => na ⟨i, z⟩) y)
          · exact .inr ⟨o, k _ _ (fun z => na ⟨i, z⟩) y⟩
        · by_cases el : l = i
          · subst el
            simp only [if_true] at hl
            rcases sub _ hl with z | z
            · exact na ⟨_, z⟩
            · rcases rd with y | ⟨o, y⟩ <;> (rw [z] at y; cases y)
          · simp only [if_neg el] at hl
            exact na ⟨l, hl⟩
      | o r => exact .o (r.mono f fun b o hb => k b o (fun z => ej (h.dis i j b z hb)))
      | x z => exact .x z
      | r r nr z =>
        refine .r (r.mono f fun b o hb => k b o (fun z => nr b hb ⟨i, z⟩)) (fun b hb ⟨l, hl⟩ => ?_) z
        by_cases el : l = i
        · subst el
          simp only [if_true] at hl
          rcases sub _ hl with z | z
          · exact nr b hb ⟨_, z⟩
          · obtain ⟨o, q, _⟩ := r.soft b hb
            rw [z] at q; cases q
        · simp only [if_neg el] at hl
          exact nr b hb ⟨l, hl⟩
  · have ne : j ≠ i := fun e => by
      subst e
      rw [List.getElem?_eq_none_iff] at q
      simp at q
      omega
    simp only [if_neg ne] at hb
    exact h.out j (by rw [List.getElem?_eq_none_iff] at q ⊢; simpa using q) b hb
  · by_cases e1 : j = i
    · by_cases e2 : l = i
      · rw [e1, e2]
      · simp only [if_pos e1] at hj
        simp only [if_neg e2] at hk
        rcases sub b hj with z | z
        · exact absurd (h.dis i l b z hk) (Ne.symm e2)
        · obtain ⟨o, q⟩ := old l b hk; rw [z] at q; cases q
    · simp only [if_neg e1] at hj
      by_cases e2 : l = i
      · simp only [if_pos e2] at hk
        rcases sub b hk with z | z
        · exact absurd (h.dis i j b z hj) (Ne.symm e1)
        · obtain ⟨o, q⟩ := old j b hj; rw [z] at q; cases q
      · simp only [if_neg e2] at hk
        exact h.dis j l b hj hk
  · by_cases z : φ i b
    · rcases h.sub i b z with z | z
      · exact absurd z n
      · rw [z] at q; cases q
    · exact k b o z (h.frm b o n q)
  · by_cases hz : φ i b
    · exact st b hz
    · obtain ⟨o, q⟩ := h.frz b z
      exact ⟨o, k b o hz q⟩
  · by_cases e1 : j = i
    · simp only [if_pos e1] at hb
      rcases sub b hb with z | z
      · exact h.sub i b z
      · exact .inr (h.new0 z).1
    · simp only [if_neg e1] at hb
      exact h.sub j b hb
  · obtain ⟨q1, ob2, q2⟩ := h.io j y q
    refine ⟨q1, ?_⟩
    by_cases ej : i = j
    · subst ej; exact ⟨ob', List.getElem?_set_self hl⟩
    · exact ⟨ob2, by rw [List.getElem?_set_ne ej]; exact q2⟩
theorem EnvOk.own {K : PySem.W.Frag} {H : Hp} {σ : L2.St} {ρ : Rho} {φ : Nat → Addr → Prop} {i : Nat} {ob : Ob} (h : EnvOk K B H σ ρ φ) (hi : ρ[i]? = some (.o ob)) : ∃ x, σ[i]? = some (some (.ref x)) ∧ OwnRep K H (φ i) x ob := by
  have z := h.sl i _ hi
  generalize hv : σ[i]? = v at z
  cases z with
  | o r => exact ⟨_, rfl, r⟩
def sApp (i : Nat) (m : ME) : MS := fun ρ => match ρ[i]? with
  | some (.o (.lst ds)) => match m ρ with
    | some d => if ds.length < sizeLine then .nx (ρ.set i (.o (.lst (ds ++ [d])))) else .stuck
    | none => .stuck
  | _ => .stuck
theorem sApp_ok {i : Nat} {ρ : Rho} (h : sApp i m ρ ≠ .stuck) : ∃ ds d, ρ[i]? = some (.o (.lst ds)) ∧ m ρ = some d ∧ ds.length < sizeLine ∧ sApp i m ρ = .nx (ρ.set i (.o (.lst (ds ++ [d])))) := by
  unfold sApp at h ⊢
  split at h
  · rename_i ds e
    cases q : m ρ with
    | none => rw [q] at h; exact absurd rfl h
    | some d =>
      rw [q] at h
      by_cases hl : ds.length < sizeLine
      · exact ⟨ds, d, e, rfl, hl, if_pos hl⟩
      · exact absurd (if_neg hl) h
  · exact absurd rfl h
theorem Ev.turn {K : PySem.W.Frag} {H H' : Hp} {φ : Nat → Addr → Prop} {i : Nat} {fp : Addr → Prop} (k : ∀ b o, ¬ φ i b → H b = some o → H' b = some o) (sub : ∀ b, fp b → φ i b ∨ H b = none) : Ev H φ H' (fun j => if j = i then fp else φ j) :=
  ⟨fun b o n h => k b o (fun z => n ⟨i, z⟩) h, fun j b z => by
    by_cases e : j = i
    · simp only [if_pos e] at z
      exact (sub b z).imp (fun z => ⟨i, z⟩) id
    · simp only [if_neg e] at z
      exact .inl ⟨j, z⟩⟩
theorem sm_app {i : Nat} {o : Expr} {apos p : Pos} (hbm : PE X (.Call (.Attribute o "append" apos) [e] [] p) (tBM X.K "list" rAppend (tVar i) (tCons (tE X.K B.xo .per m) tNil)))
    (hq : swapsWith (.Call (.Attribute o "append" apos) [e] [] p) none pos.line X.env = pure false := by rfl) :
    PSm X B W rk (.Expr (.Call (.Attribute o "append" apos) [e] [] p) pos) (sApp i m) := (ps_expr hbm hq).weak fun D σ H ⟨ρ, φ, E, q⟩ => by
  obtain ⟨ds, d, h1, h2, h3, h4⟩ := sApp_ok q.ns
  rw [h4] at q
  obtain ⟨a, e1, r⟩ := E.own h1
  generalize hfp : φ i = fp at r
  cases r with
  | @lst _ xs _ ea r =>
    refine ⟨_, e1, .inl ⟨rfl, _, SqL.of ea⟩, ρ, d, E.rd, h2, fun v H' s rv => ?_⟩
    have k : ∀ b o, ¬ φ i b → H' b = some o → upd H' a (.lst (xs ++ [v])) b = some o := fun b o n z => by
      have n' : b ≠ a := fun e => n (by rw [hfp]; exact e)
      rw [upd_ne n']; exact z
    have f : Firm H' (upd H' a (.lst (xs ++ [v]))) := ⟨fun b ys z => by rw [upd_ne (ne_of z (s _ _ ea) (by intro z; cases z))]; exact z, fun b o u z => by rw [upd_ne (ne_of z (s _ _ ea) (by intro z; cases z))]; exact z⟩
    have sb : ∀ b, b = a → φ i b ∨ H' b = none := fun b z => .inl (by rw [hfp]; exact z)
    refine ⟨a, xs, v, rfl, rfl, s _ _ ea, by rw [r.length]; exact h3, q _ _ _ (EnvOk.turn (E.same s) h1 e1 k (.lst upd_same (((r.mono (firm s)).append (Rps.one rv)).mono f)) sb fun b z => ?_) ((Ev.same s).trans (Ev.turn (K := X.K) k sb))⟩
    rw [hfp] at z
    have z : b = a := z
    subst z
    exact ⟨_, upd_same⟩
/-! ### what a loop walks: it stands whatever the slots' own things do -/
def Stay (K : PySem.W.Frag) (φ : Nat → Addr → Prop) (H : Hp) (v : V) (ds : List PyData) : Prop :=
  ∃ a xs, v = .ref a ∧ Rps K H xs ds ∧ (SqT K H a xs ∨ (Rd H a (.lst xs) ∧ ¬ ∃ j, φ j a) ∨ KL K a xs)
theorem Stay.mono {K : PySem.W.Frag} {H H' : Hp} {φ φ' : Nat → Addr → Prop} {v : V} {ds : List PyData} (h : Stay K φ H v ds) (f : Firm H H') (w : Ev H φ H' φ') : Stay K φ' H' v ds := by
  obtain ⟨a, xs, e, r, q⟩ := h
  refine ⟨a, xs, e, r.mono f, ?_⟩
  rcases q with q | ⟨q, n⟩ | q
  · exact .inl (f.sqt q)
  · refine .inr (.inl ⟨?_, fun ⟨j, z⟩ => ?_⟩)
    · rcases q with q | ⟨o, q⟩
      · exact .inl (w.st _ _ n q)
      · exact .inr ⟨o, w.st _ _ n q⟩
    · rcases w.sub j a z with z | z
      · exact n z
      · rcases q with q | ⟨o, q⟩ <;> (rw [z] at q; cases q)
  · exact .inr (.inr q)
theorem LA.mono {K : PySem.W.Frag} {H H' : Hp} {φ φ' : Nat → Addr → Prop} {a : Addr} {xs : List V} (g : (Rd H a (.lst xs) ∧ ¬ ∃ j, φ j a) ∨ KL K a xs) (w : Ev H φ H' φ') : (Rd H' a (.lst xs) ∧ ¬ ∃ j, φ' j a) ∨ KL K a xs := by
  rcases g with ⟨q, n⟩ | q
  · refine .inl ⟨?_, fun ⟨j, z⟩ => ?_⟩
    · rcases q with q | ⟨o, q⟩
      · exact .inl (w.st _ _ n q)
      · exact .inr ⟨o, w.st _ _ n q⟩
    · rcases w.sub j a z with z | z
      · exact n z
      · rcases q with q | ⟨o, q⟩ <;> (rw [z] at q; cases q)
  · exact .inr q
abbrev ML := Rho → Option (List PyData)
def tL (K : PySem.W.Frag) (B : Bd) (m : ML) : TE := fun σ H Q => ∃ ρ φ ds, EnvOk K B H σ ρ φ ∧ m ρ = some ds ∧ ∀ v H', Same H H' → Stay K φ H' v ds → Q v H'
abbrev PLm (X : Cx) (B : Bd) (e : Expr) (m : ML) : Prop := PE X e (tL X.K B m)
def mIt (m : ME) : ML := fun ρ => (m ρ).bind itemsOf
theorem pl_of (h : PEm X B.xo .fre e m) : PLm X B e (mIt m) := h.weak fun σ H Q ⟨ρ, φ, ds, E, q, z⟩ => by
  obtain ⟨d, q1, q2⟩ := Option.bind_eq_some_iff.mp q
  refine ⟨ρ, d, E.rd, q1, fun v H' s r => z v H' s ?_⟩
  rcases r with r | ⟨a, xs, es, e1, rfl, n, ha, r⟩
  · cases r with
    | lst e1 r => cases q2; exact ⟨_, _, rfl, r, .inr (.inl ⟨.inr ⟨_, e1⟩, fun ⟨j, z⟩ => by obtain ⟨o, q, so⟩ := (E.same s).there z; rw [e1] at q; cases q; exact so⟩)⟩
    | tup e1 r => cases q2; exact ⟨_, _, rfl, r, .inl e1⟩
    | _ => cases q2
  · cases q2
    exact ⟨_, _, e1, r, .inr (.inl ⟨.inl ha, fun ⟨j, z⟩ => by obtain ⟨o, q, so⟩ := E.there z; rw [n] at q; cases q⟩)⟩
def mItB (i : Nat) : ML := fun ρ => match ρ[i]? with
  | some (.b ds) => some ds
  | _ => none
theorem pl_b (i : Nat) {x : Str} (hN : X.N[i]? = some x := by rfl) (hv : Vis X.env.scope x := by first | exact Or.inl rfl | exact Or.inr (Or.inl rfl) | exact Or.inr (Or.inr rfl)) (hd : (x == ("__debug__" : Str)) = false := by decide)
    (hcd : (x == ("__classdict__" : Str)) = false := by decide) : PLm X B (.Name x pos) (mItB i) := (pe_var (i := i) hN hv hd hcd).weak fun σ H Q ⟨ρ, φ, ds, E, q, z⟩ => by
  unfold mItB at q
  split at q
  · rename_i es e1
    cases q
    have r := E.sl i _ e1
    generalize hs : σ[i]? = v at r
    cases r with | b q r _ => exact ⟨_, hs, z _ _ (Same.refl H) ⟨_, _, rfl, r, .inr q⟩⟩
  · cases q
/-- a list or a tuple, walked; its length is no more than the line -/
def iSeq (K : PySem.W.Frag) (tl : TE) : TI := fun σ H R => tl σ H fun x H1 => ∃ a xs, x = .ref a ∧ ((SqL K H1 a xs ∧ (xs.length ≤ sizeLine → R (Itl K a) H1)) ∨ (SqT K H1 a xs ∧ (xs.length ≤ sizeLine → R (Itt K a) H1)))
theorem pi_seq {tg l : Expr} {tl : TE} (hl : PE X l tl) : PI X tg l (iSeq X.K tl) := by
  refine ⟨fun pins s σ H R I h => ?_⟩
  refine thn (hl.run pins s σ H _ I h) fun v s1 ⟨x, H1, I1, r1, q1⟩ => ?_
  obtain ⟨a, xs, e, ⟨hq, q⟩ | ⟨hq, q⟩⟩ := q1
  · subst e
    cases r1
    obtain ⟨its, rv, p, hz⟩ := I1.list hq
    refine wpAny_pyIter_list p.isList ?_
    refine ⟨s1.heap.objs.size, [s1.heap.objs.size], _, _, H1, rfl, I1.kept (t' := s1.toks) fun b o e => Heap.get?_push_of_some _ e, turn_list a _, ⟨_, Heap.get?_push_size _ rfl, rfl, rfl⟩, fun b hb => ?_, q hz⟩
    have e : b = s1.heap.objs.size := by simpa using hb
    subst e
    exact I1.fpOk (Nat.le_refl _) (I1.hok.fresh (Nat.le_refl _))
  · subst e
    cases r1
    obtain ⟨its, rv, p, hz⟩ := I1.tuple hq
    refine wpAny_pyIter_tuple (show s1.heap.IsTuple a its.toArray from p) ?_
    refine ⟨s1.heap.objs.size, [s1.heap.objs.size], _, _, H1, rfl, I1.kept (t' := s1.toks) fun b o e => Heap.get?_push_of_some _ e, turn_tuple a _, ⟨_, Heap.get?_push_size _ rfl, rfl, rfl⟩, fun b hb => ?_, q hz⟩
    have e : b = s1.heap.objs.size := by simpa using hb
    subst e
    exact I1.fpOk (Nat.le_refl _) (I1.hok.fresh (Nat.le_refl _))
/-! ### for -/
def isO : Option Sl → Bool
  | some (.o _) => true
  | _ => false
theorem isO_no {s : Option Sl} (h : isO s = false) : ∀ ob, s ≠ some (.o ob) := fun ob e => by subst e; cases h
def forL (i : Nat) (body : MS) : List PyData → MS
  | [], ρ => .nx ρ
  | d :: ds, ρ => if isO ρ[i]? then .stuck else match body (ρ.set i (.d d)) with
    | .nx ρ' => forL i body ds ρ'
    | .ct ρ' => forL i body ds ρ'
    | .bk ρ' => .nx ρ'
    | o => o
def sFor (i : Nat) (src : ML) (body : MS) : MS := fun ρ => match src ρ with
  | some ds => forL i body ds ρ
  | none => .stuck
/-- between two turns -/
def TurnP (K : PySem.W.Frag) (B : Bd) (W : WX) (rk : Kd) (D : Ends) (i : Nat) (body : MS) (ds : List PyData) (n : Nat) (σ : L2.St) (H : Hp) : Prop :=
  ∃ ρ φ, EnvOk K B H σ ρ φ ∧ Post K B W rk D H φ (forL i body (ds.drop n) ρ)
theorem drop_cons {α : Type} {ds : List α} {n : Nat} {d : α} (h : ds[n]? = some d) : ds.drop n = d :: ds.drop (n + 1) := by
  obtain ⟨hl, e⟩ := List.getElem?_eq_some_iff.mp h
  rw [← e]
  exact List.drop_eq_getElem_cons hl
theorem turn_body {K : PySem.W.Frag} {D : Ends} {i n : Nat} {body : MS} {ds : List PyData} {d : PyData} {σ : L2.St} {H H2 : Hp} {v : V} {ρ : Rho} {φ : Nat → Addr → Prop} {N : L2.St → Hp → Prop}
    (E : EnvOk K B H σ ρ φ) (q : Post K B W rk D H φ (forL i body (ds.drop n) ρ)) (hd : ds[n]? = some d) (r : Rp K H v d) (hN : ∀ σ H ρ φ', EnvOk K B H σ ρ φ' → Ev H2 φ H φ' → Post K B W rk D H φ' (forL i body (ds.drop (n + 1)) ρ) → N σ H) (e : H2 = H) :
    tS K B W rk body { D with nx := N, ct := N, bk := D.nx } (σ.set i (some v)) H := by
  subst e
  rw [drop_cons hd] at q
  unfold forL at q
  split at q
  · exact q.elim
  · rename_i hn
    have hn : isO ρ[i]? = false := by simpa using hn
    refine ⟨_, φ, E.setD (isO_no hn) r, ?_⟩
    cases h : body (ρ.set i (.d d)) with
    | nx ρ' => rw [h] at q; exact fun σ' H' φ' E' w => hN σ' H' ρ' φ' E' w (q.mono w)
    | ct ρ' => rw [h] at q; exact fun σ' H' φ' E' w => hN σ' H' ρ' φ' E' w (q.mono w)
    | bk ρ' => rw [h] at q; exact q
    | rt d ρ' => rw [h] at q; exact q
    | ex c ρ' => rw [h] at q; exact q
    | stuck => rw [h] at q; exact q
theorem sm_for {i : Nat} {tg iter : Expr} {src : ML} {mb : MS} (hp : PassesOwn (model X.prog X.w) X.A X.env X.xe) (hc : X.calm = true) (hi : PLm X B iter src) (hg : PG X tg (gName i)) (hb : PSsm X B W rk body mb)
    (hs : ∀ x, foldedSetIterable iter X.env x = pure x := by intro _; rfl) : PSm X B W rk (.For tg iter body [] pos) (sFor i src mb) := (ps_for hp hc (pi_seq hi) hg hb hs).weak fun D σ H ⟨ρ, φ, E, q⟩ => by
  unfold sFor at q
  cases h : src ρ with
  | none => rw [h] at q; exact q.elim
  | some ds =>
    rw [h] at q
    refine ⟨ρ, φ, ds, E, h, fun v H1 s st => ?_⟩
    obtain ⟨a, xs, rfl, r, hq⟩ := id st
    -- between two turns: the slots, what is walked, what is left
    have all : ∀ (G : Hp → (Nat → Addr → Prop) → Prop), G H1 φ → (∀ H φ H' φ', G H φ → Firm H H' → Ev H φ H' φ' → G H' φ') →
        let Pv : Nat → L2.St → Hp → Prop := fun n σ H => ∃ ρ φ, EnvOk X.K B H σ ρ φ ∧ (Firm H1 H ∧ G H φ) ∧ Post X.K B W rk D H φ (forL i mb (ds.drop n) ρ)
        Pv 0 σ H1 ∧ (∀ σ H, Pv xs.length σ H → D.nx σ H) ∧ ∀ n x σ H, xs[n]? = some x → Pv n σ H → gName i x σ H fun σ2 H2 => tS X.K B W rk mb { D with nx := Pv (n + 1), ct := Pv (n + 1), bk := D.nx } σ2 H2 := fun G g0 gm => by
      refine ⟨⟨ρ, φ, E.same s, ⟨Firm.refl _, g0⟩, q.mono (Ev.same s)⟩, fun σ H ⟨ρ, φ, E, _, q⟩ => ?_, fun n x σ H hx ⟨ρ, φ, E, ⟨f, g⟩, q⟩ => ?_⟩
      · rw [List.drop_eq_nil_of_le (by rw [r.length]; exact Nat.le_refl _)] at q
        exact q σ H φ E (Ev.refl _ _)
      · obtain ⟨d, hd, rd⟩ := (r.mono f).get' hx
        exact turn_body E q hd rd (fun σ' H' ρ' φ' E' w q' => ⟨ρ', φ', E', ⟨f.trans (w.firm E), gm _ _ _ _ g (w.firm E) w⟩, q'⟩) rfl
    refine ⟨a, xs, rfl, ?_⟩
    rcases hq with hq | hq
    · obtain ⟨P0, fin, turn⟩ := all (fun _ _ => True) trivial (fun _ _ _ _ _ _ _ => trivial)
      exact .inr ⟨hq, fun _ => for_tup (K := X.K) (a := a) (xs := xs) _ P0 (fun n σ H _ ⟨ρ, φ, E, ⟨f, _⟩, _⟩ => f.sqt hq) turn fin⟩
    · obtain ⟨P0, fin, turn⟩ := all (fun H φ => (Rd H a (.lst xs) ∧ ¬ ∃ j, φ j a) ∨ KL X.K a xs) hq (fun H φ H' φ' g f w => LA.mono g w)
      exact .inl ⟨hq.imp (fun z => z.1) id, fun _ => for_list (K := X.K) (a := a) (xs := xs) _ P0 (fun n σ H _ ⟨ρ, φ, E, ⟨f, g⟩, _⟩ => g.imp (fun z => z.1) id) turn fin⟩
end
end PL

namespace PL
open PySem PySem.Spec PyProof.Rows L2
section
variable {X : Cx} {B : Bd} {W : WX} {rk : Kd} {st : Stmt} {rest body els : List Stmt} {e a b : Expr} {m ma mb : ME} {mt : MT} {s1 s2 : MS} {k k1 k2 : Kd} {pos p : Pos}
/-! ### for over a range -/
def rngD (lo : Int) (n : Nat) : List PyData := (List.range n).map fun (j : Nat) => .int (lo + (j : Int))
theorem rngD_get {lo : Int} {n j : Nat} (h : j < n) : (rngD lo n)[j]? = some (.int (lo + (j : Int))) := by
  unfold rngD
  rw [List.getElem?_map, List.getElem?_range h]
  rfl
theorem rngD_len {lo : Int} {n : Nat} : (rngD lo n).length = n := by unfold rngD; rw [List.length_map, List.length_range]
def mR1 (m : ME) : ML := fun ρ => match m ρ with
  | some (.int j) => if j < 2 ^ 62 ∧ -(2 ^ 62) ≤ j then some (rngD 0 j.toNat) else none
  | _ => none
def mR2 (ma mb : ME) : ML := fun ρ => match ma ρ, mb ρ with
  | some (.int i), some (.int j) => if (i < 2 ^ 62 ∧ -(2 ^ 62) ≤ i) ∧ j < 2 ^ 62 ∧ -(2 ^ 62) ≤ j then some (rngD i (j - i).toNat) else none
  | _, _ => none
theorem sm_forR_core {i : Nat} {D : Ends} {lo : Int} {n : Nat} {σ : L2.St} {H : Hp} {ρ : Rho} {φ : Nat → Addr → Prop} {mb : MS} (E : EnvOk X.K B H σ ρ φ) (q : Post X.K B W rk D H φ (forL i mb (rngD lo n) ρ)) :
    ∃ Wi : Nat → Nat → L2.St → Hp → Prop, (∃ m, Wi 0 m σ H) ∧ ∀ j m σ H, Wi j m σ H →
      ((Itr lo n).stop j H ∧ D.nx σ H) ∨ ((Itr lo n).go j H ∧ ∃ N : L2.St → Hp → Prop, (∀ σ' H', N σ' H' → ∃ m', m' < m ∧ Wi (j + 1) m' σ' H') ∧ ∀ x H', (Itr lo n).yld j H x H' → gName i x σ H' fun σ2 H2 => tS X.K B W rk mb { D with nx := N, ct := N, bk := D.nx } σ2 H2) := by
  refine for_range (lo := lo) (n := n) (fun j σ H => ∃ ρ φ, EnvOk X.K B H σ ρ φ ∧ Post X.K B W rk D H φ (forL i mb ((rngD lo n).drop j) ρ)) ⟨ρ, φ, E, q⟩ (fun j σ H hj ⟨ρ, φ, E, q⟩ => ?_) fun σ H ⟨ρ, φ, E, q⟩ => ?_
  · exact turn_body E q (rngD_get hj) (.int _) (fun σ' H' ρ' φ' E' w q' => ⟨ρ', φ', E', q'⟩) rfl
  · rw [List.drop_eq_nil_of_le (by rw [rngD_len]; exact Nat.le_refl _)] at q
    exact q σ H φ E (Ev.refl _ _)
theorem sm_forR1 {i : Nat} {tg : Expr} {mb : MS} (hp : PassesOwn (model X.prog X.w) X.A X.env X.xe) (hc : X.calm = true) (hg : Gl X "range") (hm : X.mg "range" = none) (ha : PEm X B.xo k a ma) (ht : PG X tg (gName i)) (hb : PSsm X B W rk body mb)
    (hs : starEach [a] X.env = [(false, eval a X.env)] := by rfl) (hf : ∀ x, foldedSetIterable (.Call (.Name "range" p) [a] [] pos) X.env x = pure x := by intro _; rfl) {fpos : Pos} : PSm X B W rk (.For tg (.Call (.Name "range" p) [a] [] pos) body [] fpos) (sFor i (mR1 ma) mb) :=
  (ps_for hp hc (pi_range1 hg hm (pa_cons ha pa_nil hs) hs) ht hb hf).weak fun D σ H ⟨ρ, φ, E, q⟩ => by
    unfold sFor mR1 at q
    cases h : ma ρ with
    | none => rw [h] at q; exact q.elim
    | some d =>
      rw [h] at q
      cases d with
      | int j =>
        simp only at q
        split at q
        · rename_i es e1
          obtain ⟨c, rfl⟩ := some_if e1
          refine ⟨ρ, _, E.rd, h, fun v H1 s r => ⟨j, by rw [r.toAny.int], c.2, c.1, sm_forR_core (E.same s) (q.mono (Ev.same s))⟩⟩
        · exact q.elim
      | _ => exact q.elim
theorem sm_forR2 {i : Nat} {tg : Expr} {mc : MS} (hp : PassesOwn (model X.prog X.w) X.A X.env X.xe) (hc : X.calm = true) (hg : Gl X "range") (hm : X.mg "range" = none) (ha : PEm X B.xo k1 a ma) (hb' : PEm X B.xo k2 b mb) (ht : PG X tg (gName i)) (hb : PSsm X B W rk body mc)
    (hs : starEach [a, b] X.env = [(false, eval a X.env), (false, eval b X.env)] := by rfl) (hs2 : starEach [b] X.env = [(false, eval b X.env)] := by rfl) (hf : ∀ x, foldedSetIterable (.Call (.Name "range" p) [a, b] [] pos) X.env x = pure x := by intro _; rfl) {fpos : Pos} :
    PSm X B W rk (.For tg (.Call (.Name "range" p) [a, b] [] pos) body [] fpos) (sFor i (mR2 ma mb) mc) :=
  (ps_for hp hc (pi_range2 hg hm (pa_cons ha (pa_cons hb' pa_nil hs2) (by rw [hs, hs2])) hs hs2) ht hb hf).weak fun D σ H ⟨ρ, φ, E, q⟩ => by
    unfold sFor mR2 at q
    split at q
    · rename_i es e1
      split at e1
      · rename_i i j h1 h2
        obtain ⟨c, rfl⟩ := some_if e1
        refine ⟨ρ, _, E.rd, h1, fun v H1 s r => ⟨ρ, _, E.rd.mono s, h2, fun u H2 s2 r2 => ⟨_, _, by rw [r.toAny.int, r2.toAny.int], ⟨c.1.2, c.1.1, c.2.2, c.2.1⟩, sm_forR_core ((E.same s).same s2) (q.mono ((Ev.same s).trans (Ev.same s2)))⟩⟩⟩
      · cases e1
    · exact q.elim
/-! ### for over zip of two lists, of two tuples -/
def forZ (i j : Nat) (body : MS) : List PyData → List PyData → MS
  | d :: ds, c :: cs, ρ => if isO ρ[i]? || isO ρ[j]? then .stuck else match body ((ρ.set i (.d d)).set j (.d c)) with
    | .nx ρ' => forZ i j body ds cs ρ'
    | .ct ρ' => forZ i j body ds cs ρ'
    | .bk ρ' => .nx ρ'
    | o => o
  | _, _, ρ => .nx ρ
/-- what is zipped: two lists or two tuples, of one length -/
abbrev MZ := Rho → Option (Bool × List PyData)
def tZ (K : PySem.W.Frag) (B : Bd) (m : MZ) : TE := fun σ H Q => ∃ ρ φ t ds, EnvOk K B H σ ρ φ ∧ m ρ = some (t, ds) ∧ ∀ a xs H', Same H H' → Rps K H' xs ds → (if t = true then SqT K H' a xs else (Rd H' a (.lst xs) ∧ ¬ ∃ j, φ j a) ∨ KL K a xs) → Q (.ref a) H'
abbrev PZm (X : Cx) (B : Bd) (e : Expr) (m : MZ) : Prop := PE X e (tZ X.K B m)
def mZ (m : ME) : MZ := fun ρ => match m ρ with
  | some (.list ds) => some (false, ds)
  | some (.tuple ds) => some (true, ds)
  | _ => none
theorem pz_of (h : PEm X B.xo .fre e m) : PZm X B e (mZ m) := h.weak fun σ H Q ⟨ρ, φ, t, ds, E, q, z⟩ => by
  unfold mZ at q
  split at q
  · rename_i es h1
    cases q
    refine ⟨ρ, _, E.rd, h1, fun v H' s r => ?_⟩
    rcases r with r | ⟨a, xs, es, rfl, e2, n, ha, r⟩
    · cases r with
      | lst e1 r => exact z _ _ H' s r (by simp only [if_neg Bool.false_ne_true]; exact .inl ⟨.inr ⟨_, e1⟩, fun ⟨j, z⟩ => by obtain ⟨o, q, so⟩ := (E.same s).there z; rw [e1] at q; cases q; exact so⟩)
    · cases e2
      exact z _ _ H' s r (by simp only [if_neg Bool.false_ne_true]; exact .inl ⟨.inl ha, fun ⟨j, z⟩ => by obtain ⟨o, q, so⟩ := E.there z; rw [n] at q; cases q⟩)
  · rename_i es h1
    cases q
    refine ⟨ρ, _, E.rd, h1, fun v H' s r => ?_⟩
    rcases r with r | ⟨a, xs, es, rfl, e2, n, ha, r⟩
    · cases r with
      | tup e1 r => exact z _ _ H' s r (by simp only [if_true]; exact e1)
    · cases e2
  · cases q
def mZB (i : Nat) : MZ := fun ρ => match ρ[i]? with
  | some (.b ds) => some (false, ds)
  | _ => none
theorem pz_b (i : Nat) {x : Str} (hN : X.N[i]? = some x := by rfl) (hv : Vis X.env.scope x := by first | exact Or.inl rfl | exact Or.inr (Or.inl rfl) | exact Or.inr (Or.inr rfl)) (hd : (x == ("__debug__" : Str)) = false := by decide)
    (hcd : (x == ("__classdict__" : Str)) = false := by decide) : PZm X B (.Name x pos) (mZB i) := (pe_var (i := i) hN hv hd hcd).weak fun σ H Q ⟨ρ, φ, t, ds, E, q, z⟩ => by
  unfold mZB at q
  split at q
  · rename_i es e1
    cases q
    have r := E.sl i _ e1
    generalize hs : σ[i]? = v at r
    cases r with | b q r _ => exact ⟨_, hs, z _ _ _ (Same.refl H) r (by simp only [if_neg Bool.false_ne_true]; exact q)⟩
  · cases q
def sForZ (i j : Nat) (ma mb : MZ) (body : MS) : MS := fun ρ => match ma ρ, mb ρ with
  | some (t, ds), some (u, es) => if t = u ∧ ds.length = es.length then forZ i j body ds es ρ else .stuck
  | _, _ => .stuck
theorem turn_bodyZ {K : PySem.W.Frag} {D : Ends} {i j n : Nat} {body : MS} {ds es : List PyData} {d c : PyData} {σ : L2.St} {H : Hp} {v u : V} {ρ : Rho} {φ : Nat → Addr → Prop} {N : L2.St → Hp → Prop}
    (E : EnvOk K B H σ ρ φ) (q : Post K B W rk D H φ (forZ i j body (ds.drop n) (es.drop n) ρ)) (hd : ds[n]? = some d) (hc : es[n]? = some c) (r : Rp K H v d) (r2 : Rp K H u c) (hij : i ≠ j)
    (hN : ∀ σ H' ρ φ', EnvOk K B H' σ ρ φ' → Ev H φ H' φ' → Post K B W rk D H' φ' (forZ i j body (ds.drop (n + 1)) (es.drop (n + 1)) ρ) → N σ H') :
    tS K B W rk body { D with nx := N, ct := N, bk := D.nx } ((σ.set i (some v)).set j (some u)) H := by
  rw [drop_cons hd, drop_cons hc] at q
  unfold forZ at q
  split at q
  · exact q.elim
  · rename_i hn
    have hn' : isO ρ[i]? = false ∧ isO ρ[j]? = false := by simpa using hn
    have hn2 : isO (ρ.set i (.d d))[j]? = false := by rw [List.getElem?_set_ne hij]; exact hn'.2
    refine ⟨_, φ, (E.setD (isO_no hn'.1) r).setD (isO_no hn2) r2, ?_⟩
    cases h : body ((ρ.set i (.d d)).set j (.d c)) with
    | nx ρ' => rw [h] at q; exact fun σ' H' φ' E' w => hN σ' H' ρ' φ' E' w (q.mono w)
    | ct ρ' => rw [h] at q; exact fun σ' H' φ' E' w => hN σ' H' ρ' φ' E' w (q.mono w)
    | bk ρ' => rw [h] at q; exact q
    | rt d ρ' => rw [h] at q; exact q
    | ex c ρ' => rw [h] at q; exact q
    | stuck => rw [h] at q; exact q
theorem sm_forZ {i j : Nat} {e2 : Expr} {ma mb : MZ} {mc : MS} {elts : List Expr} {kk : Nat} {tpos fpos : Pos} (hp : PassesOwn (model X.prog X.w) X.A X.env X.xe) (hc : X.calm = true) (hg : Gl X "zip") (hm : X.mg "zip" = none) (ha : PZm X B e ma) (hb' : PZm X B e2 mb)
    (ht : PG X (.Tuple elts kk tpos) (gTup X.K 2 (gCons (gName i) (gCons (gName j) gNil)))) (hb : PSsm X B W rk body mc) (hij : i ≠ j)
    (hs : starEach [e, e2] X.env = (false, eval e X.env) :: starEach [e2] X.env := by rfl) (hs2 : starEach [e2] X.env = [(false, eval e2 X.env)] := by rfl) (hf : ∀ x, foldedSetIterable (.Call (.Name "zip" p) [e, e2] [] pos) X.env x = pure x := by intro _; rfl) :
    PSm X B W rk (.For (.Tuple elts kk tpos) (.Call (.Name "zip" p) [e, e2] [] pos) body [] fpos) (sForZ i j ma mb mc) :=
  (ps_for hp hc (RZ.pi_zipA hg hm (pa_cons ha (pa_cons hb' pa_nil hs2) hs) hs (by rw [hs2]; rfl)) ht hb hf).weak fun D σ H ⟨ρ, φ, E, q⟩ => by
    unfold sForZ at q
    split at q
    · rename_i t ds u es h1 h2
      split at q
      · rename_i hl
        obtain ⟨rfl, hl⟩ := hl
        refine ⟨ρ, φ, t, ds, E, h1, fun a xs H1 s r hx => ⟨ρ, φ, t, es, E.same s, h2, fun b ys H2 s2 r2 hy => ?_⟩⟩
        have r := r.mono (firm s2)
        have E2 := (E.same s).same s2
        have q := q.mono ((Ev.same s).trans (Ev.same s2))
        have all : ∀ (G : Hp → (Nat → Addr → Prop) → Prop), G H2 φ → (∀ H φ H' φ', G H φ → Firm H H' → Ev H φ H' φ' → G H' φ') →
            let Pv : Nat → L2.St → Hp → Prop := fun n σ H => ∃ ρ φ, EnvOk X.K B H σ ρ φ ∧ (Firm H2 H ∧ G H φ) ∧ Post X.K B W rk D H φ (forZ i j mc (ds.drop n) (es.drop n) ρ)
            Pv 0 σ H2 ∧ (∀ σ H, Pv xs.length σ H → D.nx σ H) ∧ ∀ (n : Nat) (x y : V) (T : Addr) (σ : L2.St) (H : Hp), xs[n]? = some x → ys[n]? = some y → Pv n σ H → H T = none → gTup X.K 2 (gCons (gName i) (gCons (gName j) gNil)) (.ref T) σ (upd H T (.tup [x, y])) fun σ2 H2 => tS X.K B W rk mc { D with nx := Pv (n + 1), ct := Pv (n + 1), bk := D.nx } σ2 H2 := fun G g0 gm => by
          refine ⟨⟨ρ, φ, E2, ⟨Firm.refl _, g0⟩, q⟩, fun σ H ⟨ρ, φ, E, _, q⟩ => ?_, fun n x y T σ H hx hy ⟨ρ, φ, E, ⟨f, g⟩, q⟩ hT => ?_⟩
          · rw [List.drop_eq_nil_of_le (by rw [r.length]; exact Nat.le_refl _)] at q
            unfold forZ at q
            exact q σ H φ E (Ev.refl _ _)
          · obtain ⟨d, hd, rd⟩ := (r.mono f).get' hx
            obtain ⟨c, hc, rc⟩ := (r2.mono f).get' hy
            have sT := same_new hT (.tup [x, y])
            refine ⟨T, [x, y], rfl, .of upd_same, rfl, x, [y], rfl, y, [], rfl, rfl, ?_⟩
            exact turn_bodyZ (E.same sT) (q.mono (Ev.same sT)) hd hc (rd.mono (firm sT)) (rc.mono (firm sT)) hij (fun σ' H' ρ' φ' E' w q' => ⟨ρ', φ', E', ⟨(f.trans (firm sT)).trans (w.firm (E.same sT)), gm _ _ _ _ (gm _ _ _ _ g (firm sT) (Ev.same sT)) (w.firm (E.same sT)) w⟩, q'⟩)
        have hlen : xs.length = ys.length := by rw [r.length, r2.length]; exact hl
        refine ⟨a, b, xs, ys, rfl, ?_⟩
        cases t with
        | true =>
          have hx : SqT X.K H1 a xs := by simpa using hx
          have hy : SqT X.K H2 b ys := by simpa using hy
          have hx := (firm s2).sqt hx
          obtain ⟨P0, fin, turn⟩ := all (fun _ _ => True) trivial (fun _ _ _ _ _ _ _ => trivial)
          exact .inr ⟨hx, hy, RZ.for_zipT (K := X.K) (a := a) (b := b) hlen _ P0 (fun n σ H ⟨ρ, φ, E, ⟨f, _⟩, _⟩ => ⟨f.sqt hx, f.sqt hy⟩) turn fin⟩
        | false =>
          have hx : (Rd H1 a (.lst xs) ∧ ¬ ∃ j, φ j a) ∨ KL X.K a xs := by simpa using hx
          have hy : (Rd H2 b (.lst ys) ∧ ¬ ∃ j, φ j b) ∨ KL X.K b ys := by simpa using hy
          have hx := LA.mono hx (Ev.same s2)
          obtain ⟨P0, fin, turn⟩ := all (fun H φ => ((Rd H a (.lst xs) ∧ ¬ ∃ j, φ j a) ∨ KL X.K a xs) ∧ ((Rd H b (.lst ys) ∧ ¬ ∃ j, φ j b) ∨ KL X.K b ys)) ⟨hx, hy⟩ (fun H φ H' φ' g f w => ⟨LA.mono g.1 w, LA.mono g.2 w⟩)
          exact .inl ⟨hx.imp (fun z => z.1) id, hy.imp (fun z => z.1) id, RZ.for_zipL (K := X.K) (a := a) (b := b) hlen _ P0 (fun n σ H ⟨ρ, φ, E, ⟨f, g⟩, _⟩ => ⟨g.1.imp (fun z => z.1) id, g.2.imp (fun z => z.1) id⟩) turn fin⟩
      · exact q.elim
    · exact q.elim
/-! ### while -/
def whileL (t : MT) (body : MS) : Nat → MS
  | 0, _ => .stuck
  | n + 1, ρ => match t ρ with
    | some true => match body ρ with
      | .nx ρ' => whileL t body n ρ'
      | .ct ρ' => whileL t body n ρ'
      | .bk ρ' => .nx ρ'
      | o => o
    | some false => .nx ρ
    | none => .stuck
theorem sm_while {c : Expr} {mb : MS} (n : Nat) (hp : PassesOwn (model X.prog X.w) X.A X.env X.xe) (hc : PTm X B.xo c mt) (hb : PSsm X B W rk body mb) : PSm X B W rk (.While c body [] pos) (whileL mt mb n) := (ps_while hp hc hb).weak fun D σ H ⟨ρ, φ, E, q⟩ => by
  refine ⟨fun m σ H => ∃ ρ φ, EnvOk X.K B H σ ρ φ ∧ Post X.K B W rk D H φ (whileL mt mb m ρ), ⟨n, ρ, φ, E, q⟩, fun m σ H ⟨ρ, φ, E, q⟩ => ?_⟩
  cases m with
  | zero => exact q.elim
  | succ m =>
    unfold whileL at q
    cases h : mt ρ with
    | none => rw [h] at q; exact q.elim
    | some b =>
      rw [h] at q
      refine ⟨ρ, b, E.rd, h, fun H1 s => ?_⟩
      cases b with
      | false => exact q σ H1 φ (E.same s) (Ev.same s)
      | true =>
        have q := q.mono (Ev.same s)
        refine ⟨fun σ H => ∃ ρ φ, EnvOk X.K B H σ ρ φ ∧ Post X.K B W rk D H φ (whileL mt mb m ρ), fun σ' H' z => ⟨m, Nat.lt_succ_self m, z⟩, ρ, φ, E.same s, ?_⟩
        cases h2 : mb ρ with
        | nx ρ' => simp only [h2] at q; exact fun σ' H' φ' E' w => ⟨ρ', φ', E', q.mono w⟩
        | ct ρ' => simp only [h2] at q; exact fun σ' H' φ' E' w => ⟨ρ', φ', E', q.mono w⟩
        | bk ρ' => simp only [h2] at q; exact q
        | rt d ρ' => simp only [h2] at q; exact q
        | ex c ρ' => simp only [h2] at q; exact q
        | stuck => simp only [h2] at q; exact q
end
end PL

namespace PL
open PySem PySem.Spec PyProof.Rows L2
/-! ### comprehensions -/
section
variable {X : Cx} {xo : XO} {e a b elt tg iter : Expr} {ifs : List Expr} {m ma mb me : ME} {mt : MT} {k k1 k2 : Kd} {pos p : Pos} {scope : Scope} {i : Nat} {x : Str}
def compL (i : Nat) (t : MT) (me : ME) (ρ : Rho) : List PyData → Option (List PyData)
  | [] => some []
  | d :: ds => (t (ρ.set i (.d d))).bind fun b => match b with
    | true => (me (ρ.set i (.d d))).bind fun y => (compL i t me ρ ds).map (y :: ·)
    | false => compL i t me ρ ds
def mComp (i : Nat) (src : ML) (t : MT) (me : ME) : ME := fun ρ => (src ρ).bind fun ds => (compL i t me ρ ds).map .list
def mYes : MT := fun _ => some true
abbrev PTsm (X : Cx) (xo : XO) (ifs : List Expr) (m : MT) : Prop := PTs X ifs (tT X.K xo m)
theorem ptm_nil : PTsm X xo [] mYes := pts_nil.weak fun σ H Q ⟨ρ, b, R, q, z⟩ => by cases q; exact z H (Same.refl H)
theorem ptm_one {c : Expr} (h : PTm X xo c mt) : PTsm X xo [c] mt := pts_one h
theorem RdOk.wipe {K : PySem.W.Frag} {H : Hp} {σ : L2.St} {ρ : Rho} {v : V} {d : PyData} (R : RdOk K xo H σ ρ) (hl : i < σ.length) (r : Rp K H v d) : RdOk K xo H ((L2.wipe σ [i]).set i (some v)) (ρ.set i (.d d)) := by
  have e : (L2.wipe σ [i]).set i (some v) = σ.set i (some v) := by
    show (σ.set i none).set i (some v) = _
    rw [List.set_set]
  rw [e]
  refine ⟨fun j s q => ?_, R.xo.set i _ (fun c z => by cases z)⟩
  by_cases ej : i = j
  · subst ej
    rw [List.getElem?_set_self hl]
    have hρ : i < ρ.length := by
      have := (List.getElem?_eq_some_iff.mp q).1
      simpa using this
    rw [List.getElem?_set_self hρ] at q
    cases q
    exact .d r
  · rw [List.getElem?_set_ne ej] at q ⊢
    exact R.rd j s q
/-- between two turns of a comprehension -/
def CpInv (K : PySem.W.Frag) (σ : L2.St) (i : Nat) (t : MT) (me : ME) (ρ : Rho) (ds : List PyData) (H1 : Hp) (D : Addr) (Q : VK) (n : Nat) (H : Hp) : Prop :=
  Same H1 H ∧ ∃ acc dacc rest, H D = some (.lst acc) ∧ Rps K H acc dacc ∧ acc.length ≤ n ∧ compL i t me ρ (ds.drop n) = some rest ∧ ∀ H' xs, Same H1 H' → H' D = some (.lst xs) → Rps K H' xs (dacc ++ rest) → Q (.ref D) H'
theorem Same.updL {H H' : Hp} {D : Addr} {acc : List V} {o : HO} (n : H D = none) (s : Same H H') : Same H (upd H' D o) := fun b u q => by rw [upd_ne (ne_of_none q n)]; exact s b u q
theorem Firm.updL {H : Hp} {D : Addr} {acc ys : List V} (e : H D = some (.lst acc)) : Firm H (upd H D (.lst ys)) := ⟨fun b xs q => by rw [upd_ne (ne_of q e (by intro z; cases z))]; exact q, fun b o u q => by rw [upd_ne (ne_of q e (by intro z; cases z))]; exact q⟩
theorem cp_turn {K : PySem.W.Frag} {σ : L2.St} {ρ : Rho} {ds : List PyData} {d : PyData} {H1 H : Hp} {D : Addr} {Q : VK} {n : Nat} {v : V} (hl : i < σ.length) (R : RdOk K xo H1 σ ρ) (nD : H1 D = none) (p : CpInv K σ i mt me ρ ds H1 D Q n H) (hd : ds[n]? = some d) (r : Rp K H v d) (hz : n < sizeLine) :
    gName i v (L2.wipe σ [i]) H fun σ2 H2 => L2.wipe σ2 [i] = L2.wipe σ [i] ∧ tT K xo mt σ2 H2 fun b H3 =>
      if b = true then tE K xo .per me σ2 H3 fun y H4 => ∃ acc, H4 D = some (.lst acc) ∧ acc.length < sizeLine ∧ CpInv K σ i mt me ρ ds H1 D Q (n + 1) (upd H4 D (.lst (acc ++ [y]))) else CpInv K σ i mt me ρ ds H1 D Q (n + 1) H3 := by
  obtain ⟨s, acc, dacc, rest, e, ra, hn, hc, z⟩ := p
  rw [drop_cons hd] at hc
  unfold compL at hc
  obtain ⟨b, h1, hc⟩ := Option.bind_eq_some_iff.mp hc
  have R2 := (R.mono s).wipe (i := i) hl r
  refine ⟨?_, ρ.set i (.d d), b, R2, h1, fun H3 s3 => ?_⟩
  · show ((σ.set i none).set i (some v)).set i none = σ.set i none
    rw [List.set_set, List.set_set]
  cases b with
  | true =>
    obtain ⟨y, h2, hc⟩ := Option.bind_eq_some_iff.mp hc
    obtain ⟨rest', h3, rfl⟩ := Option.map_eq_some_iff.mp hc
    refine iteT ⟨ρ.set i (.d d), y, R2.mono s3, h2, fun u H4 s4 r4 => ?_⟩
    have e4 := s4 _ _ (s3 _ _ e)
    have f4 := Firm.updL (ys := acc ++ [u]) e4
    refine ⟨acc, e4, Nat.lt_of_le_of_lt hn hz, Same.updL (acc := acc) nD ((s.trans s3).trans s4), acc ++ [u], dacc ++ [y], rest', upd_same, ?_, ?_, h3, fun H' xs s' e' r' => z H' xs s' e' ?_⟩
    · exact ((ra.mono (firm (s3.trans s4))).append (Rps.one r4)).mono f4
    · rw [List.length_append, List.length_singleton]; omega
    · rw [List.append_assoc] at r'; exact r'
  | false =>
    refine iteF ⟨s.trans s3, acc, dacc, rest, s3 _ _ e, ra.mono (firm s3), Nat.le_succ_of_le hn, hc, z⟩
theorem tLc_of {σ : L2.St} (hlen : i < σ.length) {H : Hp} {Q : VK} (hw : tE X.K xo .new (mComp i (mIt m) mt me) σ H Q) : tLc (iSeq X.K (tE X.K xo k m)) (gName i) (tT X.K xo mt) (tE X.K xo .per me) [i] σ H Q := by
  obtain ⟨ρ, d, R, q, z⟩ := hw
  obtain ⟨ds, q1, q2'⟩ := Option.bind_eq_some_iff.mp q
  obtain ⟨ys, q2, rfl⟩ := Option.map_eq_some_iff.mp q2'
  obtain ⟨d0, q0, q1⟩ := Option.bind_eq_some_iff.mp q1
  refine ⟨ρ, d0, R, q0, fun v H1 s1 r1 => ?_⟩
  obtain ⟨a, xs, rfl, hq, rx⟩ := r1.toAny.items q1
  refine ⟨a, xs, rfl, ?_⟩
  have start : ∀ D, H1 D = none → CpInv X.K σ i mt me ρ ds H1 D Q 0 (upd H1 D (.lst [])) := fun D nD => ⟨Same.updL (acc := []) nD (Same.refl H1), [], [], ys, upd_same, .nil, Nat.le_refl _, q2, fun H' xs s' e' r' => z _ _ (s1.trans s') ⟨D, xs, _, rfl, rfl, s1.free nD, e', r'⟩⟩
  have fin : ∀ D H', CpInv X.K σ i mt me ρ ds H1 D Q xs.length H' → Q (.ref D) H' := fun D H' ⟨s', acc, dacc, rest, e', ra, _, hc', z'⟩ => by
    rw [List.drop_eq_nil_of_le (by rw [rx.length]; exact Nat.le_refl _)] at hc'
    cases hc'
    exact z' H' acc s' e' (by rw [List.append_nil]; exact ra)
  rcases hq with hq | hq
  · exact .inl ⟨hq, fun hz D nD => lc_list (K := X.K) (a := a) (xs := xs) (CpInv X.K σ i mt me ρ ds H1 D Q) (start D nD) (fun n H' _ p => p.1.seq hq) (fun n y H' hy p => by
      obtain ⟨d, hd, rd⟩ := (rx.mono (firm p.1)).get' hy
      exact cp_turn hlen (R.mono s1) nD p hd rd (Nat.lt_of_lt_of_le (List.getElem?_eq_some_iff.mp hy).1 hz)) (fin D)⟩
  · exact .inr ⟨hq, fun hz D nD => lc_tup (K := X.K) (a := a) (xs := xs) (CpInv X.K σ i mt me ρ ds H1 D Q) (start D nD) (fun n H' _ p => (firm p.1).sqt hq) (fun n y H' hy p => by
      obtain ⟨d, hd, rd⟩ := (rx.mono (firm p.1)).get' hy
      exact cp_turn hlen (R.mono s1) nD p hd rd (Nat.lt_of_lt_of_le (List.getElem?_eq_some_iff.mp hy).1 hz)) (fin D)⟩
/-- over a range -/
def mR1c (m : ME) : ML := fun ρ => match m ρ with
  | some (.int j) => if j ≤ 16000000 ∧ -16000000 ≤ j then some (rngD 0 j.toNat) else none
  | _ => none
theorem tLcR_of {σ : L2.St} (hlen : i < σ.length) {H : Hp} {Q : VK} (hw : tE X.K xo .new (mComp i (mR1c m) mt me) σ H Q) : tLc (iRng1 (tCons (tE X.K xo k m) tNil)) (gName i) (tT X.K xo mt) (tE X.K xo .per me) [i] σ H Q := by
  obtain ⟨ρ, d, R, q, z⟩ := hw
  obtain ⟨ds, q1, q2'⟩ := Option.bind_eq_some_iff.mp q
  obtain ⟨ys, q2, rfl⟩ := Option.map_eq_some_iff.mp q2'
  unfold mR1c at q1
  split at q1
  · rename_i j h1
    obtain ⟨c, rfl⟩ := some_if q1
    refine ⟨ρ, _, R, h1, fun v H1 s1 r1 => ⟨j, by rw [r1.toAny.int], by omega, by omega, fun D nD => ?_⟩⟩
    refine lc_range (lo := 0) (n := j.toNat) (CpInv X.K σ i mt me ρ (rngD 0 j.toNat) H1 D Q) ⟨Same.updL (acc := []) nD (Same.refl H1), [], [], ys, upd_same, .nil, Nat.le_refl _, q2, fun H' xs s' e' r' => z _ _ (s1.trans s') ⟨D, xs, _, rfl, rfl, s1.free nD, e', r'⟩⟩ (fun n H' hn p => ?_) fun H' ⟨s', acc, dacc, rest, e', ra, _, hc', z'⟩ => ?_
    · exact cp_turn hlen (R.mono s1) nD p (rngD_get hn) (.int _) (by rw [sizeLine_eq]; omega)
    · rw [List.drop_eq_nil_of_le (by rw [rngD_len]; exact Nat.le_refl _)] at hc'
      cases hc'
      exact z' H' acc s' e' (by rw [List.append_nil]; exact ra)
  · cases q1
theorem pm_lc (hc : X.calm = true) (hN : X.N.Nodup) (hl : X.N[i]? = some x) (hi : PEm X xo k iter m) (ok : BlkOk X.N X.env.scope scope [(x, i)])
    (hg : ∀ (s : Shared) (H : Hp) (C : Addr) (cl : List (Str × Addr)) (fp : List Addr), PG (X.blk s H scope (compEnvC scope cl C X.env) fp) tg (gName i)) (ht : ∀ (s : Shared) (H : Hp) (C : Addr) (cl : List (Str × Addr)) (fp : List Addr), PTsm (X.blk s H scope (compEnvC scope cl C X.env) fp) xo ifs mt)
    (he : ∀ (s : Shared) (H : Hp) (C : Addr) (cl : List (Str × Addr)) (fp : List Addr), PEm (X.blk s H scope (compEnvC scope cl C X.env) fp) xo .per elt me) (hs : ∀ x, foldedSetIterable iter X.env x = pure x := by intro _; rfl) :
    PEm X xo .new (.ListComp elt [⟨tg, iter, ifs, 0⟩] scope pos) (mComp i (mIt m) mt me) := by
  have h0 := pe_lc (own := [(x, i)]) (te := tE X.K xo .per me) (tt := tT X.K xo mt) hc hN (pi_seq hi) ok hg ht he hs (pos := pos)
  exact ⟨fun pins s σ H Q I hw => h0.run pins s σ H Q I (tLc_of (by rw [I.len]; exact (List.getElem?_eq_some_iff.mp hl).1) hw)⟩
theorem pm_lcR {p2 : Pos} (hc : X.calm = true) (hN : X.N.Nodup) (hl : X.N[i]? = some x) (hr : Gl X "range") (hm : X.mg "range" = none) (hi : PEm X xo k a m) (ok : BlkOk X.N X.env.scope scope [(x, i)])
    (hg : ∀ (s : Shared) (H : Hp) (C : Addr) (cl : List (Str × Addr)) (fp : List Addr), PG (X.blk s H scope (compEnvC scope cl C X.env) fp) tg (gName i)) (ht : ∀ (s : Shared) (H : Hp) (C : Addr) (cl : List (Str × Addr)) (fp : List Addr), PTsm (X.blk s H scope (compEnvC scope cl C X.env) fp) xo ifs mt)
    (he : ∀ (s : Shared) (H : Hp) (C : Addr) (cl : List (Str × Addr)) (fp : List Addr), PEm (X.blk s H scope (compEnvC scope cl C X.env) fp) xo .per elt me) (hst : starEach [a] X.env = [(false, eval a X.env)] := by rfl) (hs : ∀ x, foldedSetIterable (.Call (.Name "range" p) [a] [] p2) X.env x = pure x := by intro _; rfl) :
    PEm X xo .new (.ListComp elt [⟨tg, (.Call (.Name "range" p) [a] [] p2), ifs, 0⟩] scope pos) (mComp i (mR1c m) mt me) := by
  have h0 := pe_lc (own := [(x, i)]) (te := tE X.K xo .per me) (tt := tT X.K xo mt) hc hN (pi_range1 hr hm (pa_cons hi pa_nil hst) hst) ok hg ht he hs (pos := pos)
  exact ⟨fun pins s σ H Q I hw => h0.run pins s σ H Q I (tLcR_of (by rw [I.len]; exact (List.getElem?_eq_some_iff.mp hl).1) hw)⟩
/-! name = [..] on one line -/
variable {B : Bd} {W : WX} {rk : Kd}
theorem sNewLc {j : Nat} {st : Stmt} {m : ME} {t : TE} (h : PS X st (tAsg t (gName j))) (hw : ∀ σ H Q, (∃ pins s, Inv X pins σ H s) → tE X.K B.xo .new m σ H Q → t σ H Q) : PSm X B W rk st (sNew j m) := ⟨fun pins s σ H D I ⟨ρ, φ, E, q⟩ => h.run pins s σ H D I (by
    obtain ⟨hn, hl, ds, h1, h2⟩ := sNew_ok q.ns
    rw [h2] at q
    refine hw σ H _ ⟨pins, s, I⟩ ⟨ρ, _, E.rd, h1, fun v H' s ⟨a, xs, es, ev, ed, n, ha, r⟩ => ?_⟩
    subst ev
    cases ed
    exact q _ _ _ (E.setNew hn hl s n ha r) ⟨fun b o _ h => s b o h, fun j b z => z.elim (fun z => .inr (by rw [z.2]; exact n)) fun z => .inl ⟨j, z⟩⟩)⟩
theorem sm_setLc {j : Nat} {y : Str} {py spos : Pos} (hc : X.calm = true) (hN : X.N.Nodup) (hl : X.N[i]? = some x) (hy : X.N[j]? = some y) (hyl : X.env.scope.names.lookup y = some .local)
    (hsw : swapsWith (.ListComp elt [⟨tg, iter, ifs, 0⟩] scope pos) (some (.Name y py)) spos.line X.env = pure true) (hi : PEm X B.xo k iter m) (ok : BlkOk X.N X.env.scope scope [(x, i)])
    (hg : ∀ (s : Shared) (H : Hp) (C : Addr) (cl : List (Str × Addr)) (fp : List Addr), PG (X.blk s H scope (compEnvC scope cl C X.env) fp) tg (gName i)) (ht : ∀ (s : Shared) (H : Hp) (C : Addr) (cl : List (Str × Addr)) (fp : List Addr), PTsm (X.blk s H scope (compEnvC scope cl C X.env) fp) B.xo ifs mt)
    (he : ∀ (s : Shared) (H : Hp) (C : Addr) (cl : List (Str × Addr)) (fp : List Addr), PEm (X.blk s H scope (compEnvC scope cl C X.env) fp) B.xo .per elt me) (hs : ∀ x, foldedSetIterable iter X.env x = pure x := by intro _; rfl) :
    PSm X B W rk (.Assign [.Name y py] (.ListComp elt [⟨tg, iter, ifs, 0⟩] scope pos) spos) (sNew j (mComp i (mIt m) mt me)) :=
  sNewLc (ps_setLc (own := [(x, i)]) (te := tE X.K B.xo .per me) (tt := tT X.K B.xo mt) hc hN hy hyl hsw (pi_seq hi) ok hg ht he hs) fun σ H Q ⟨_, _, I⟩ hw => tLc_of (by rw [I.len]; exact (List.getElem?_eq_some_iff.mp hl).1) hw
theorem sm_setLcR {j : Nat} {y : Str} {py spos p2 : Pos} (hc : X.calm = true) (hN : X.N.Nodup) (hl : X.N[i]? = some x) (hy : X.N[j]? = some y) (hyl : X.env.scope.names.lookup y = some .local)
    (hsw : swapsWith (.ListComp elt [⟨tg, (.Call (.Name "range" p) [a] [] p2), ifs, 0⟩] scope pos) (some (.Name y py)) spos.line X.env = pure true) (hr : Gl X "range") (hm : X.mg "range" = none) (hi : PEm X B.xo k a m) (ok : BlkOk X.N X.env.scope scope [(x, i)])
    (hg : ∀ (s : Shared) (H : Hp) (C : Addr) (cl : List (Str × Addr)) (fp : List Addr), PG (X.blk s H scope (compEnvC scope cl C X.env) fp) tg (gName i)) (ht : ∀ (s : Shared) (H : Hp) (C : Addr) (cl : List (Str × Addr)) (fp : List Addr), PTsm (X.blk s H scope (compEnvC scope cl C X.env) fp) B.xo ifs mt)
    (he : ∀ (s : Shared) (H : Hp) (C : Addr) (cl : List (Str × Addr)) (fp : List Addr), PEm (X.blk s H scope (compEnvC scope cl C X.env) fp) B.xo .per elt me) (hst : starEach [a] X.env = [(false, eval a X.env)] := by rfl) (hs : ∀ x, foldedSetIterable (.Call (.Name "range" p) [a] [] p2) X.env x = pure x := by intro _; rfl) :
    PSm X B W rk (.Assign [.Name y py] (.ListComp elt [⟨tg, (.Call (.Name "range" p) [a] [] p2), ifs, 0⟩] scope pos) spos) (sNew j (mComp i (mR1c m) mt me)) :=
  sNewLc (ps_setLc (own := [(x, i)]) (te := tE X.K B.xo .per me) (tt := tT X.K B.xo mt) hc hN hy hyl hsw (pi_range1 hr hm (pa_cons hi pa_nil hst) hst) ok hg ht he hs) fun σ H Q ⟨_, _, I⟩ hw => tLcR_of (by rw [I.len]; exact (List.getElem?_eq_some_iff.mp hl).1) hw
end
end PL

namespace PL
open PySem PySem.Spec PyProof.Rows L2
/-! ### defs -/
inductive FOut where
  | ret (d : PyData) (obs : List Ob) | ex (c : Str) (obs : List Ob) | stuck
abbrev FM := List Sl → FOut
/-- the own things handed in, as they are at the end -/
def outs : List Sl → Rho → List Ob
  | .o _ :: as, .o ob :: ρ => ob :: outs as ρ
  | _ :: as, _ :: ρ => outs as ρ
  | _, _ => []
def runF (n np : Nat) (m : MS) : FM := fun args => if args.length = np then match m (args ++ List.replicate (n - np) .nil) with
    | .nx ρ => .ret .none (outs args ρ)
    | .rt d ρ => .ret d (outs args ρ)
    | .ex c ρ => .ex c (outs args ρ)
    | _ => .stuck
  else .stuck
def ioOf (vs : List V) (args : List Sl) (i : Nat) : Option Addr := match args[i]?, vs[i]? with
  | some (.o _), some (.ref x) => some x
  | _, _ => none
def bdOf (H : Hp) (vs : List V) (args : List Sl) (φ : Nat → Addr → Prop) (xo : XO := fun _ => none) : Bd := ⟨H, fun b => ∃ j, φ j b, ioOf vs args, xo⟩
def ArgsOk (K : PySem.W.Frag) (H : Hp) (vs : List V) (args : List Sl) (φ : Nat → Addr → Prop) : Prop := EnvOk K (bdOf H vs args φ) H (vs.map some) args φ
/-- behind a call: what is not handed in as own stands; the own things -/
structure OutOk (K : PySem.W.Frag) (H : Hp) (vs : List V) (args : List Sl) (φ : Nat → Addr → Prop) (H' : Hp) (obs : List Ob) (φ' : Nat → Addr → Prop) : Prop where
  ev : Ev H φ H' φ'
  dis : ∀ i j b, φ' i b → φ' j b → i = j
  own : ∃ ρ : Rho, obs = outs args ρ ∧ ∀ i ob0, args[i]? = some (.o ob0) → ∃ x ob, vs[i]? = some (.ref x) ∧ ρ[i]? = some (.o ob) ∧ OwnRep K H' (φ' i) x ob
  non : ∀ i, (∀ ob, args[i]? ≠ some (.o ob)) → ∀ b, ¬ φ' i b
  th : ∀ b, (∃ j, φ j b) → ∃ o, H' b = some o
def spM (K : PySem.W.Frag) (rk : Kd) (fm : FM) : Sp := fun vs H Q E => ∃ args φ, ArgsOk K H vs args φ ∧ match fm args with
  | .ret d obs => ∀ v H' φ', OutOk K H vs args φ H' obs φ' → RKr K rk (bdOf H vs args φ) H' φ' v d → Q v H'
  | .ex c obs => ∀ H' φ', OutOk K H vs args φ H' obs φ' → E (.ref (He.ga K c)) none H'
  | .stuck => False
theorem spM_len {K : PySem.W.Frag} {rk : Kd} {n np : Nat} {m : MS} {vs : List V} {H : Hp} {Q : VK} {E : XK} (h : spM K rk (runF n np m) vs H Q E) : vs.length = np := by
  obtain ⟨args, φ, A, q⟩ := h
  have e : vs.length = args.length := by have := A.len; rwa [List.length_map] at this
  unfold runF at q
  split at q
  · rename_i h1
    split at h1
    · rename_i hn; rw [e]; exact hn
    · cases h1
  · rename_i h1
    split at h1
    · rename_i hn; rw [e]; exact hn
    · cases h1
  · exact q.elim
theorem args_get {α : Type} {l : List α} {n i : Nat} {x y : α} (h : (l ++ List.replicate n y)[i]? = some x) : l[i]? = some x ∨ (l[i]? = none ∧ x = y) := by
  by_cases hi : i < l.length
  · rw [List.getElem?_append_left hi] at h
    exact .inl h
  · rw [List.getElem?_append_right (by omega)] at h
    refine .inr ⟨List.getElem?_eq_none_iff.mpr (by omega), ?_⟩
    rw [List.getElem?_replicate] at h
    split at h
    · exact (Option.some.inj h).symm
    · cases h
theorem argsStart {K : PySem.W.Frag} {H : Hp} {vs : List V} {args : List Sl} {φ : Nat → Addr → Prop} {N : List Str} {np : Nat} (A : ArgsOk K H vs args φ) (hl : args.length = np) (hn : np ≤ N.length) :
    EnvOk K (bdOf H vs args φ) H (L2.start N vs) (args ++ List.replicate (N.length - np) .nil) φ := by
  have el : vs.length = args.length := by have := A.len; rwa [List.length_map] at this
  refine ⟨by simp [L2.start]; omega, fun i s q => ?_, fun i q b hb => ?_, A.dis, A.frm, A.frz, A.sub, fun i x q => ?_, fun i c q => ?_⟩
  · rcases args_get q with h | ⟨h, rfl⟩
    · have hi := (List.getElem?_eq_some_iff.mp h).1
      have e : (L2.start N vs)[i]? = (vs.map some)[i]? := by
        unfold L2.start
        exact List.getElem?_append_left (by rw [List.length_map]; omega)
      rw [e]
      exact A.sl i s h
    · exact .nil (A.out i h)
  · refine A.out i ?_ b hb
    rw [List.getElem?_eq_none_iff] at q ⊢
    simp at q
    omega
  · obtain ⟨q1, ob, q2⟩ := A.io i x q
    have hi := (List.getElem?_eq_some_iff.mp q2).1
    refine ⟨?_, ob, ?_⟩
    · unfold L2.start
      rw [List.getElem?_append_left (by rw [List.length_map]; omega)]
      exact q1
    · rw [List.getElem?_append_left hi]
      exact q2
  · rcases args_get q with h | ⟨_, h⟩
    · obtain ⟨a, oe, z, _⟩ := A.xo i c h
      cases z
    · cases h
/-- at a def's end: its own slots are forgotten -/
theorem EnvOk.outOk {K : PySem.W.Frag} {H H' : Hp} {vs : List V} {args : List Sl} {φ φ' : Nat → Addr → Prop} {σ : L2.St} {ρ : Rho} (A : ArgsOk K H vs args φ) (E : EnvOk K (bdOf H vs args φ) H' σ ρ φ') :
    OutOk K H vs args φ H' (outs args ρ) (fun i b => ioOf vs args i ≠ none ∧ φ' i b) := by
  have el : vs.length = args.length := by have := A.len; rwa [List.length_map] at this
  refine ⟨⟨fun b o n h => E.frm b o n h, fun j b z => E.sub j b z.2⟩, fun i j b z w => E.dis i j b z.2 w.2, ⟨ρ, rfl, fun i ob0 h => ?_⟩, fun i hn b z => ?_, fun b z => E.frz b z⟩
  · have z := A.sl i _ h
    have hi := (List.getElem?_eq_some_iff.mp h).1
    rw [List.getElem?_map] at z
    cases hv : vs[i]? with
    | none => rw [List.getElem?_eq_none_iff] at hv; omega
    | some v =>
      rw [hv] at z
      have z : SlOk K H (fun b => ∃ j, φ j b) (φ i) (some (some v)) (.o ob0) := z
      generalize ev : some (some v) = w at z
      cases z with
      | o r =>
        cases ev
        rename_i x
        have hio : ioOf vs args i = some x := by unfold ioOf; rw [h, hv]
        obtain ⟨q1, ob, q2⟩ := E.io i x hio
        obtain ⟨x', e1, r'⟩ := E.own q2
        rw [q1] at e1
        cases e1
        refine ⟨x, ob, rfl, q2, ?_⟩
        have e : (fun b => ioOf vs args i ≠ none ∧ φ' i b) = φ' i := by
          funext b
          exact propext ⟨fun z => z.2, fun z => ⟨by rw [hio]; exact Option.some_ne_none x, z⟩⟩
        rw [e]
        exact r'
  · obtain ⟨z1, z2⟩ := z
    apply z1
    unfold ioOf
    split
    · rename_i ob x h1 h2; exact absurd h1 (hn ob)
    · rfl
section
variable {P : Program} {w : World} {K : PySem.W.Frag} {mg : Str → Option Value} {base : Heap} {x qual : Str} {params : Arguments} {body : List Stmt} {scope : Scope} {dvs : List V} {kws : List (Str × V)} {f : Addr} {fd : FuncData}
/-- THE RULE for a def: its body's mirror -/
theorem fn_ok {N ps : List Str} {k : Nat} {rk : Kd} {m : MS} (F : FunD K x qual params body scope dvs kws f fd) (S : FnScope N ps scope) (hn : ps.length ≤ N.length)
    (hb : ∀ (cdv : Value) (A : Around) (outer : List Env) (s : Shared) (H : Hp) (E : XK) (B : Bd), Room k (A.deeper (envOfC qual scope s.heap.objs.size f cdv)) → (∀ i, ps.length ≤ i → B.io i = none) →
      PSsm (cxOf (L2.CX P w) P w K mg base N qual scope f cdv A outer s H E) B (fun cls d _ H => E cls d H) rk body m) :
    FnOk P w K mg base (L2.CX P w) (k + 1) f fd ps (spM K rk (runF N.length ps.length m)) := by
  refine F.ok S (fun vs H Q E h => spM_len h) fun cdv A outer s H vs Q E hr h => ?_
  obtain ⟨args, φ, Ar, q⟩ := h
  have hB : ∀ i, ps.length ≤ i → (bdOf H vs args φ).io i = none := fun i hi => by
    have el : vs.length = args.length := by have := Ar.len; rwa [List.length_map] at this
    have hv : vs.length = ps.length := spM_len ⟨args, φ, Ar, q⟩
    show ioOf vs args i = none
    unfold ioOf
    rw [show args[i]? = none from List.getElem?_eq_none_iff.mpr (by omega)]
  refine ⟨_, hb cdv A outer s H E (bdOf H vs args φ) hr hB, ?_⟩
  unfold runF at q
  by_cases hl : args.length = ps.length
  · rw [if_pos hl] at q
    refine ⟨_, φ, argsStart Ar hl hn, ?_⟩
    cases e : m (args ++ List.replicate (N.length - ps.length) .nil) with
    | nx ρ =>
      rw [e] at q
      intro σ H' φ' E' _
      have q : ∀ v H' φ', OutOk K H vs args φ H' (outs args ρ) φ' → RKr K rk (bdOf H vs args φ) H' φ' v .none → Q v H' := q
      exact q .non H' _ (EnvOk.outOk Ar E') (by cases rk <;> first | exact Rp.non | exact .inl Rp.non)
    | rt d ρ =>
      rw [e] at q
      intro v σ H' φ' E' r
      have q : ∀ v H' φ', OutOk K H vs args φ H' (outs args ρ) φ' → RKr K rk (bdOf H vs args φ) H' φ' v d → Q v H' := q
      refine q v H' _ (EnvOk.outOk Ar E') ?_
      cases rk with
      | per => exact r
      | _ => exact r.imp id fun ⟨a, xs, ds, e1, e2, n, ha, r, nj⟩ => ⟨a, xs, ds, e1, e2, n, ha, r, fun j hj z => nj j hj z.2⟩
    | ex c ρ =>
      rw [e] at q
      intro σ H' φ' E' _
      have q : ∀ H' φ', OutOk K H vs args φ H' (outs args ρ) φ' → E (.ref (He.ga K c)) none H' := q
      exact q H' _ (EnvOk.outOk Ar E')
    | bk ρ => rw [e] at q; exact q.elim
    | ct ρ => rw [e] at q; exact q.elim
    | stuck => rw [e] at q; exact q.elim
  · rw [if_neg hl] at q
    exact q.elim
/-- a def of the text by its name: its mirror -/
structure FnT (P : Program) (w : World) (K : PySem.W.Frag) (mg : Str → Option Value) (base : Heap) (n : Nat) (x : Str) (rk : Kd) (fm : FM) : Prop where
  ex : ∃ (f : Addr) (fd : FuncData) (ps : List Str), FnOk P w K mg base (L2.CX P w) n f fd ps (spM K rk fm) ∧ mg x = some (.ref f) ∧ PySem.W.keepIn K (.ref f) = true ∧ Binds K fd ps []
theorem FnT.mono {n j : Nat} {rk : Kd} {fm : FM} (h : FnT P w K mg base j x rk fm) (hj : j ≤ n) : FnT P w K mg base n x rk fm := by
  obtain ⟨f, fd, ps, F, r⟩ := h.ex
  exact ⟨f, fd, ps, F.mono hj, r⟩
/-- nothing is known of it -/
theorem FnT.none {n : Nat} {rk : Kd} {ps : List Str} (m : mg x = some (.ref f)) (k : PySem.W.keepIn K (.ref f) = true) (b : Binds K fd ps []) : FnT P w K mg base n x rk (fun _ => .stuck) := by
  have no : ∀ vs H Q E, ¬ spM K rk (fun _ => .stuck) vs H Q E := fun vs H Q E ⟨_, _, _, q⟩ => q
  exact ⟨f, fd, ps, ⟨fun vs H Q E h => absurd h (no vs H Q E), fun A outer s H args us vs Q E _ _ _ _ h => absurd h (no vs H Q E)⟩, m, k, b⟩
end
/-! ### calls that turn nothing -/
def mkArgs : List Bool → List PyData → List Sl
  | true :: ks, d :: ds => .d d :: mkArgs ks ds
  | false :: ks, .list xs :: ds => .b xs :: mkArgs ks ds
  | false :: ks, d :: ds => .d d :: mkArgs ks ds
  | _, _ => []
theorem mkArgs_no {ks : List Bool} {ds : List PyData} {i : Nat} {ob : Ob} : (mkArgs ks ds)[i]? ≠ some (.o ob) := by
  induction ds generalizing ks i with
  | nil => cases ks with
    | nil => unfold mkArgs; simp
    | cons k ks => cases k <;> (unfold mkArgs; simp)
  | cons d ds ih =>
    cases ks with
    | nil => unfold mkArgs; simp
    | cons k ks =>
      cases k with
      | true =>
        unfold mkArgs
        cases i with
        | zero => simp
        | succ i => simpa using ih
      | false =>
        cases d <;> (unfold mkArgs; cases i with
          | zero => simp
          | succ i => simpa using ih)
theorem mkArgs_nox {ks : List Bool} {ds : List PyData} {i : Nat} {c : Str} : (mkArgs ks ds)[i]? ≠ some (.x c) := by
  induction ds generalizing ks i with
  | nil => cases ks with
    | nil => unfold mkArgs; simp
    | cons k ks => cases k <;> (unfold mkArgs; simp)
  | cons d ds ih =>
    cases ks with
    | nil => unfold mkArgs; simp
    | cons k ks =>
      cases k with
      | true =>
        unfold mkArgs
        cases i with
        | zero => simp
        | succ i => simpa using ih
      | false =>
        cases d <;> (unfold mkArgs; cases i with
          | zero => simp
          | succ i => simpa using ih)
theorem RAs.sl {K : PySem.W.Frag} {H : Hp} {ks : List Bool} {vs : List V} {ds : List PyData} (r : RAs K H ks vs ds) : (mkArgs ks ds).length = vs.length ∧ ∀ (i : Nat) (s : Sl), (mkArgs ks ds)[i]? = some s → SlOk K H (fun _ => False) (fun _ => False) (vs.map some)[i]? s := by
  induction r with
  | nil => exact ⟨rfl, fun i s q => by simp [mkArgs] at q⟩
  | @per v d ks vs ds r _ ih =>
    refine ⟨congrArg Nat.succ ih.1, fun i s q => ?_⟩
    cases i with
    | zero =>
      have q : some (Sl.d d) = some s := q
      cases q
      exact .d r fun _ z => z
    | succ i => exact ih.2 i s q
  | @any v d ks vs ds r _ ih =>
    have nl : (∀ xs, d ≠ .list xs) → mkArgs (false :: ks) (d :: ds) = .d d :: mkArgs ks ds := fun hn => by
      cases d with
      | list xs => exact absurd rfl (hn xs)
      | _ => rfl
    cases d with
    | list xs =>
      refine ⟨congrArg Nat.succ ih.1, fun i s q => ?_⟩
      cases i with
      | zero =>
        have q : some (Sl.b xs) = some s := q
        cases q
        obtain ⟨a, ys, rfl, e1, p1⟩ := r.list
        exact .b (e1.imp (fun z => ⟨z, fun z => z⟩) id) p1 fun _ z => z
      | succ i => exact ih.2 i s q
    | _ =>
      refine ⟨by rw [nl (by intro xs z; cases z)]; exact congrArg Nat.succ ih.1, fun i s q => ?_⟩
      rw [nl (by intro xs z; cases z)] at q
      cases i with
      | zero =>
        have q : some (Sl.d _) = some s := q
        cases q
        cases r with
        | per r => exact .d r fun _ z => z
      | succ i => exact ih.2 i s q
theorem RAs.argsOk {K : PySem.W.Frag} {H : Hp} {ks : List Bool} {vs : List V} {ds : List PyData} (r : RAs K H ks vs ds) : ArgsOk K H vs (mkArgs ks ds) (fun _ _ => False) := by
  obtain ⟨e, sl⟩ := r.sl
  refine ⟨by rw [List.length_map]; exact e.symm, fun i s q => ?_, fun _ _ _ z => z, fun _ _ _ z => z.elim, fun b o _ q => q, fun b ⟨_, z⟩ => z.elim, fun _ _ z => z.elim, fun i x q => ?_, fun i c q => absurd q mkArgs_nox⟩
  · have z := sl i s q
    have e : (fun b => ∃ j : Nat, (fun (_ : Nat) (_ : Addr) => False) j b) = fun _ : Addr => False := by funext b; exact propext ⟨fun ⟨_, z⟩ => z, False.elim⟩
    rw [e]
    exact z
  · have q : ioOf vs (mkArgs ks ds) i = some x := q
    unfold ioOf at q
    split at q
    · rename_i ob x h1 _; exact absurd h1 mkArgs_no
    · cases q
def mCall (ks : List Bool) (fm : FM) (ms : MA) : ME := fun ρ => (ms ρ).bind fun ds => match fm (mkArgs ks ds) with
  | .ret d _ => some d
  | _ => none
section
variable {X : Cx} {xo : XO} {e : Expr} {es : List Expr} {ms : MA} {ks : List Bool} {pos p : Pos} {x : Str} {n : Nat} {fm : FM}
theorem tCall_of {rk k : Kd} (hk : (rk = .per ∧ k = .per) ∨ (rk = .fre ∧ k = .fre)) {σ : L2.St} {H : Hp} {Q : VK} (h : tE X.K xo k (mCall ks fm ms) σ H Q) : tCall (spM X.K rk fm) [] E0 (tAm X.K xo ks ms) σ H Q := by
  obtain ⟨ρ, d, R, q, z⟩ := h
  obtain ⟨ds, q1, q⟩ := Option.bind_eq_some_iff.mp q
  refine ⟨ρ, ds, R, q1, fun vs H1 s1 r1 => ?_⟩
  show spM X.K rk fm (vs ++ []) H1 Q E0
  rw [List.append_nil]
  refine ⟨mkArgs ks ds, _, r1.argsOk, ?_⟩
  split at q
  · rename_i d' obs e1
    cases q
    rw [e1]
    intro v H' φ' O r
    have s : Same H1 H' := fun b o q => O.ev.st b o (fun ⟨_, z⟩ => z) q
    refine z v H' (s1.trans s) ?_
    rcases hk with ⟨rfl, rfl⟩ | ⟨rfl, rfl⟩
    · exact r
    · exact r.imp id fun ⟨a, xs, ds, e1, e2, n, ha, r, _⟩ => ⟨a, xs, ds, e1, e2, s1.free n, ha, r⟩
  · cases q
theorem passT {X : Cx} : Passes (L2.CX X.prog X.w) X E0 := passL
theorem pm_call (G : FnT X.prog X.w X.K X.mg X.base n x .per fm) (hr : Room n X.A) (hg : Gl X x) (ha : PAm X xo ks (e :: es) ms) (hdb : (x == ("__debug__" : Str)) = false := by decide) (he : starEach (e :: es) X.env = (false, eval e X.env) :: starEach es X.env := by rfl)
    (hpl : (backTo pos (starEach es X.env)).any (·.1) = false := by rfl) : PEm X xo .per (.Call (.Name x p) (e :: es) [] pos) (mCall ks fm ms) := by
  obtain ⟨f, fd, ps, F, hm, hk, hb⟩ := G.ex
  exact (pe_call F hr hg hm hk hb .nil passL ha hdb he hpl).weak fun _ _ _ h => tCall_of (.inl ⟨rfl, rfl⟩) h
theorem pm_callF (G : FnT X.prog X.w X.K X.mg X.base n x .fre fm) (hr : Room n X.A) (hg : Gl X x) (ha : PAm X xo ks (e :: es) ms) (hdb : (x == ("__debug__" : Str)) = false := by decide) (he : starEach (e :: es) X.env = (false, eval e X.env) :: starEach es X.env := by rfl)
    (hpl : (backTo pos (starEach es X.env)).any (·.1) = false := by rfl) : PEm X xo .fre (.Call (.Name x p) (e :: es) [] pos) (mCall ks fm ms) := by
  obtain ⟨f, fd, ps, F, hm, hk, hb⟩ := G.ex
  exact (pe_call F hr hg hm hk hb .nil passL ha hdb he hpl).weak fun _ _ _ h => tCall_of (.inr ⟨rfl, rfl⟩) h
theorem pm_call0 (G : FnT X.prog X.w X.K X.mg X.base n x .per fm) (hr : Room n X.A) (hg : Gl X x) (hdb : (x == ("__debug__" : Str)) = false := by decide) : PEm X xo .per (.Call (.Name x p) [] [] pos) (mCall [] fm mNil) := by
  obtain ⟨f, fd, ps, F, hm, hk, hb⟩ := G.ex
  refine (pe_call0 F hr hg hm hk hb .nil passL hdb).weak fun σ H Q h => ?_
  obtain ⟨ρ, ds, R, q, z⟩ := tCall_of (ks := []) (.inl ⟨rfl, rfl⟩) h
  cases q
  exact z [] H (Same.refl H) .nil
end
end PL

namespace PL
open PySem PySem.Spec PyProof.Rows L2
section
variable {X : Cx} {xo : XO} {B : Bd} {W : WX} {rk : Kd} {st : Stmt} {rest body els : List Stmt} {e a b c : Expr} {m ma mb mc : ME} {mt : MT} {s1 s2 : MS} {k k1 k2 k3 : Kd} {pos p : Pos}
/-! ### an own list is frozen where it stands -/
def sFz (i : Nat) (m : MS) : MS := fun ρ => match ρ[i]? with
  | some (.o (.lst ds)) => m (ρ.set i (.d (.list ds)))
  | _ => m ρ
theorem EnvOk.freeze {K : PySem.W.Frag} {H : Hp} {σ : L2.St} {ρ : Rho} {φ : Nat → Addr → Prop} {i : Nat} {ds : List PyData} (h : EnvOk K B H σ ρ φ) (hi : ρ[i]? = some (.o (.lst ds))) (hio : B.io i = none) :
    ∃ a xs, H a = some (.lst xs) ∧ ∀ o, EnvOk K B (upd H a (.frz o (.lst xs))) σ (ρ.set i (.d (.list ds))) (fun j b => j ≠ i ∧ φ j b) ∧ Ev H φ (upd H a (.frz o (.lst xs))) (fun j b => j ≠ i ∧ φ j b) := by
  obtain ⟨x, hσ, r⟩ := h.own hi
  generalize hfp : φ i = fp at r
  cases r with
  | @lst _ xs _ ea r =>
    refine ⟨x, xs, ea, fun o => ?_⟩
    have hx : φ i x := by rw [hfp]
    have hl : i < ρ.length := (List.getElem?_eq_some_iff.mp hi).1
    have f : Firm H (upd H x (.frz o (.lst xs))) := ⟨fun b ys z => by rw [upd_ne (ne_of z ea (by intro z; cases z))]; exact z, fun b o u z => by rw [upd_ne (ne_of z ea (by intro z; cases z))]; exact z⟩
    have nx : ∀ b, ¬ φ i b → b ≠ x := fun b n e => n (by rw [e]; exact hx)
    refine ⟨⟨by simp [h.len], fun j s q => ?_, fun j q b hb => ?_, fun j l b hj hk => h.dis j l b hj.2 hk.2, fun b o' n q => ?_, fun b z => ?_, fun j b hb => h.sub j b hb.2, fun j y q => ?_, h.xo.setR i (fun c z => by cases z)⟩, ⟨fun b o' n q => ?_, fun j b hb => .inl ⟨j, hb.2⟩⟩⟩
    · by_cases ej : i = j
      · subst ej
        rw [List.getElem?_set_self hl] at q
        cases q
        rw [hσ]
        exact .d (.lst upd_same (r.mono f)) fun b z => z.1 rfl
      · rw [List.getElem?_set_ne ej] at q
        have z := h.sl j s q
        have zj : (fun b => j ≠ i ∧ φ j b) = φ j := by
          funext b
          exact propext ⟨fun z => z.2, fun z => ⟨Ne.symm ej, z⟩⟩
        rw [zj]
        generalize σ[j]? = v at z
        cases z with
        | nil z => exact .nil z
        | d r z => exact .d (r.mono f) z
        | b q' r z =>
          refine .b (q'.imp (fun ⟨rd, na⟩ => ⟨?_, fun ⟨l, hl⟩ => na ⟨l, hl.2⟩⟩) id) (r.mono f) z
          have n := nx _ fun z => na ⟨i, z⟩
          rcases rd with y | ⟨o', y⟩
          · exact .inl (by rw [upd_ne n]; exact y)
          · exact .inr ⟨o', by rw [upd_ne n]; exact y⟩
        | o r => exact .o (r.mono f fun b o hb q => by rw [upd_ne (nx _ fun z => ej (h.dis i j b z hb))]; exact q)
        | r r nr z => exact .r (r.mono f fun b o hb q => by rw [upd_ne (nx _ fun z => nr b hb ⟨i, z⟩)]; exact q) (fun b hb ⟨l, hl⟩ => nr b hb ⟨l, hl.2⟩) z
        | x z => exact .x z
    · exact h.out j (by rw [List.getElem?_eq_none_iff] at q ⊢; simpa using q) b hb.2
    · have nb : b ≠ x := fun e => by
        subst e
        rcases h.sub i b hx with z | z
        · exact n z
        · rw [z] at q; cases q
      rw [upd_ne nb]
      exact h.frm b o' n q
    · by_cases e : b = x
      · subst e; exact ⟨_, upd_same⟩
      · obtain ⟨o', q⟩ := h.frz b z
        exact ⟨o', by rw [upd_ne e]; exact q⟩
    · have ej : i ≠ j := fun ej => by subst ej; rw [hio] at q; cases q
      obtain ⟨q1, ob, q2⟩ := h.io j y q
      exact ⟨q1, ob, by rw [List.getElem?_set_ne ej]; exact q2⟩
    · rw [upd_ne (nx _ fun z => n ⟨i, z⟩)]
      exact q
theorem sm_fz {i : Nat} {s1 : MS} (h : PSm X B W rk st s1) (hio : B.io i = none) : PSm X B W rk st (sFz i s1) := ⟨fun pins s σ H D I ⟨ρ, φ, E, q⟩ => by
  unfold sFz at q
  split at q
  · rename_i ds hi
    obtain ⟨a, xs, ea, hh⟩ := E.freeze hi hio
    obtain ⟨o, I2⟩ := Inv.freeze I ea
    obtain ⟨E2, v⟩ := hh o
    exact h.run pins s σ _ D I2 ⟨_, _, E2, q.mono v⟩
  · exact h.run pins s σ H D I ⟨ρ, φ, E, q⟩⟩
/-! ### name = own.pop() -/
def sPop (j i : Nat) : MS := fun ρ => match ρ[i]? with
  | some (.o (.lst ds)) => match ρ[j]? with
    | some (.o _) => .stuck
    | _ => match ds.getLast? with
      | some d => .nx ((ρ.set i (.o (.lst ds.dropLast))).set j (.d d))
      | none => .stuck
  | _ => .stuck
theorem sPop_ok {i j : Nat} {ρ : Rho} (h : sPop j i ρ ≠ .stuck) : ∃ ds d, ρ[i]? = some (.o (.lst ds)) ∧ (∀ ob, ρ[j]? ≠ some (.o ob)) ∧ ds[ds.length - 1]? = some d ∧ sPop j i ρ = .nx ((ρ.set i (.o (.lst ds.dropLast))).set j (.d d)) := by
  unfold sPop at h ⊢
  cases e : ρ[i]? with
  | none => rw [e] at h; exact absurd rfl h
  | some s =>
    rw [e] at h
    cases s with
    | o ob =>
      cases ob with
      | lst ds =>
        cases q : ds.getLast? with
        | none =>
          refine absurd ?_ h
          simp only [q]
          split <;> rfl
        | some d =>
          have q' := q
          rw [List.getLast?_eq_getElem?] at q'
          refine ⟨ds, d, rfl, fun ob z => ?_, q', ?_⟩
          · simp only [z] at h; exact h rfl
          · simp only [q] at h ⊢
            split at h
            · exact absurd rfl h
            · rename_i hn
              rfl
      | ins C fs => exact absurd rfl h
    | _ => exact absurd rfl h
theorem sm_pop {i j : Nat} {x : Str} {o : Expr} {apos cp pos' : Pos} (hN : X.N.Nodup) (hi : X.N[j]? = some x) (hx : Loc X.env.scope x) (hbm : PE X (.Call (.Attribute o "pop" apos) [] [] cp) (tBM0 X.K "list" rPop (tVar i)))
    (hs : swapsWith (.Call (.Attribute o "pop" apos) [] [] cp) (some (.Name x pos')) pos.line X.env = pure false := by rfl)
    (hf : X.fn x = true ∨ X.env.scope.names.lookup x = some .local := by first | exact .inl rfl | exact .inr rfl | assumption) :
    PSm X B W rk (.Assign [.Name x pos'] (.Call (.Attribute o "pop" apos) [] [] cp) pos) (sPop j i) :=
  (ps_set hN hi hx hbm hs hf).weak fun D σ H ⟨ρ, φ, E, q⟩ => by
    obtain ⟨ds, d, h1, hn, h2, h3⟩ := sPop_ok q.ns
    rw [h3] at q
    obtain ⟨a, e1, r⟩ := E.own h1
    generalize hfp : φ i = fp at r
    cases r with
    | @lst _ xs _ ea r =>
      obtain ⟨v, hv, rv⟩ := r.get h2
      refine ⟨_, e1, .inl ⟨rfl, _, SqL.of ea⟩, a, xs, v, rfl, rfl, ea, by rw [r.length]; exact hv, ?_⟩
      have k : ∀ b o, ¬ φ i b → H b = some o → upd H a (.lst xs.dropLast) b = some o := fun b o n z => by
        have n' : b ≠ a := fun e => n (by rw [hfp]; exact e)
        rw [upd_ne n']; exact z
      have f : Firm H (upd H a (.lst xs.dropLast)) := ⟨fun b ys z => by rw [upd_ne (ne_of z ea (by intro z; cases z))]; exact z, fun b o u z => by rw [upd_ne (ne_of z ea (by intro z; cases z))]; exact z⟩
      have sb : ∀ b, b = a → φ i b ∨ H b = none := fun b z => .inl (by rw [hfp]; exact z)
      have nij : i ≠ j := fun e => by subst e; exact hn _ h1
      refine q _ _ _ ((EnvOk.turn E h1 e1 k (.lst upd_same (r.dropLast.mono f)) sb fun b z => ?_).setD (fun ob z => ?_) (rv.mono f)) (Ev.turn (K := X.K) k sb)
      · rw [hfp] at z
        have z : b = a := z
        subst z
        exact ⟨_, upd_same⟩
      · rw [List.getElem?_set_ne nij] at z
        exact hn ob z
/-! ### - and chains -/
def negM : PyData → Option PyData
  | .int i => some (.int (-i))
  | _ => none
theorem pm_neg (ha : PEm X xo k1 a ma) : PEm X xo .per (.UnaryOp .USub a pos) (mUn negM ma) := (pe_un un_neg ha).weak fun σ H Q ⟨ρ, d, R, q, z⟩ => by
  obtain ⟨x, q1, q⟩ := Option.bind_eq_some_iff.mp q
  refine ⟨ρ, x, R, q1, fun v H' s r => ?_⟩
  cases x with
  | int i => cases q; exact ⟨i, r.toAny.int, z _ _ s (.int _)⟩
  | _ => cases q
def mChain (f g : PyData → PyData → Option PyData) (ma mb mc : ME) : ME := fun ρ => (ma ρ).bind fun x => (mb ρ).bind fun y => (f x y).bind fun z => match z with
  | .bool true => (mc ρ).bind fun w => g y w
  | .bool false => some (.bool false)
  | _ => none
theorem tE_chain {r r' : R2} {f g : PyData → PyData → Option PyData} (hr : R2m X.K .per r f) (hr' : R2m X.K .per r' g) {σ : L2.St} {H : Hp} {Q : VK} (h : tE X.K xo .per (mChain f g ma mb mc) σ H Q) : tChain r r' (tE X.K xo k1 ma) (tE X.K xo k2 mb) (tE X.K xo k3 mc) σ H Q := by
  obtain ⟨ρ, d, R, q, z⟩ := h
  obtain ⟨x, q1, q⟩ := Option.bind_eq_some_iff.mp q
  obtain ⟨y, q2, q⟩ := Option.bind_eq_some_iff.mp q
  obtain ⟨b, q3, q⟩ := Option.bind_eq_some_iff.mp q
  refine ⟨ρ, x, R, q1, fun v H1 s1 r1 => ⟨ρ, y, R.mono s1, q2, fun u H2 s2 r2 => ?_⟩⟩
  refine hr v u H2 _ x y b (r1.toAny.mono s2) r2.toAny q3 fun v' H3 s3 r3 => ?_
  cases b with
  | bool t =>
    refine ⟨t, RpA.bool (.per r3), ?_⟩
    cases t with
    | true =>
      rw [if_pos rfl]
      obtain ⟨w, q4, q⟩ := Option.bind_eq_some_iff.mp q
      exact ⟨ρ, w, ((R.mono s1).mono s2).mono s3, q4, fun w' H4 s4 r4 => hr' u w' H4 Q y w d ((r2.toAny.mono s3).mono s4) r4.toAny q fun v' H' s r => z v' H' ((((s1.trans s2).trans s3).trans s4).trans s) r⟩
    | false =>
      rw [if_neg Bool.false_ne_true]
      cases q
      exact z _ _ ((s1.trans s2).trans s3) (.bl _)
  | _ => cases q
theorem pm_chain {op op' : CmpOp} {r r' : R2} {f g : PyData → PyData → Option PyData} (ho : OpR X (compareOp op) r) (ho' : OpR X (compareOp op') r') (hr : R2m X.K .per r f) (hr' : R2m X.K .per r' g) (ha : PEm X xo k1 a ma) (hb : PEm X xo k2 b mb) (hc : PEm X xo k3 c mc)
    (hm : lastMarks [op, op'] [b, c] = false := by with_unfolding_all rfl) : PEm X xo .per (.Compare a [op, op'] [b, c] pos) (mChain f g ma mb mc) := (pe_chain ho ho' ha hb hc hm).weak fun _ _ _ h => tE_chain hr hr' h
theorem pq_chain {op op' : CmpOp} {r r' : R2} {f g : PyData → PyData → Option PyData} (ho : OpR X (compareOp op) r) (ho' : OpR X (compareOp op') r') (hr : R2m X.K .per r f) (hr' : R2m X.K .per r' g) (ha : PEm X xo k1 a ma) (hb : PEm X xo k2 b mb) (hc : PEm X xo k3 c mc)
    (hm : lastMarks [op, op'] [b, c] = false := by with_unfolding_all rfl) : PTm X xo (.Compare a [op, op'] [b, c] pos) (mTest (mChain f g ma mb mc)) := (pt_chain ho ho' ha hb hc hm).weak fun _ _ _ h => tT_of (fun _ _ _ h => tE_chain hr hr' h) h
/-! ### l.index(x) -/
theorem hu65 {k : Nat} {A : Around} (hr : Room k A) : A.units + 65 < cLine := by have := hu200 hr; omega
def firstIx (d : PyData) : List PyData → Option Nat
  | [] => none
  | z :: zs => if PyData.eqv z d = true then some 0 else (firstIx d zs).map (· + 1)
theorem firstIx_is {d : PyData} : ∀ {ds : List PyData} {j : Nat}, firstIx d ds = some j → (∃ z, ds[j]? = some z ∧ PyData.eqv z d = true) ∧ ∀ (m : Nat) (z' : PyData), m < j → ds[m]? = some z' → PyData.eqv z' d = false
  | [], j, h => by cases h
  | z :: zs, j, h => by
    unfold firstIx at h
    by_cases e : PyData.eqv z d = true
    · rw [if_pos e] at h
      cases h
      exact ⟨⟨z, rfl, e⟩, fun m z' hm => absurd hm (Nat.not_lt_zero m)⟩
    · rw [if_neg e] at h
      obtain ⟨i, hi, rfl⟩ := Option.map_eq_some_iff.mp h
      obtain ⟨⟨y, h1, h2⟩, h3⟩ := firstIx_is hi
      refine ⟨⟨y, by simpa using h1, h2⟩, fun m z' hm hz => ?_⟩
      cases m with
      | zero => simp at hz; subst hz; exact Bool.eq_false_iff.mpr e
      | succ m => exact h3 m z' (by omega) (by simpa using hz)
def indexM (a b : PyData) : Option PyData := match a with
  | .list ds => if SeqAt.shaped (.list ds) = true ∧ SeqAt.shaped b = true then (firstIx b ds).map fun (j : Nat) => PyData.int (j : Int) else none
  | _ => none
theorem pm_index {x arg : Expr} {apos : Pos} (h : PE X (.Call (.Attribute x "index" apos) [arg] [] pos) (tBM X.K "list" (rIndexD X.K) (tE X.K xo k1 ma) (tCons (tE X.K xo k2 mb) tNil))) :
    PEm X xo .per (.Call (.Attribute x "index" apos) [arg] [] pos) (mBin indexM ma mb) := h.weak fun σ H Q ⟨ρ, d, R, q, z⟩ => by
  obtain ⟨u, q1, q⟩ := Option.bind_eq_some_iff.mp q
  obtain ⟨w, q2, q⟩ := Option.bind_eq_some_iff.mp q
  refine ⟨ρ, u, R, q1, fun v H1 s1 r1 => ?_⟩
  have r1 := r1.toAny
  cases u with
  | list ds =>
    unfold indexM at q
    simp only at q
    split at q
    · rename_i hh
      obtain ⟨j, hj, rfl⟩ := Option.map_eq_some_iff.mp q
      obtain ⟨⟨y, h1, h2⟩, h3⟩ := firstIx_is hj
      obtain ⟨a, xs, rfl, sq, rr⟩ := r1.list
      refine ⟨.inl ⟨rfl, xs, sq⟩, ρ, w, R.mono s1, q2, fun v2 H2 s2 r2 => ?_⟩
      exact ⟨a, v2, w, ds, j, y, rfl, rfl, (r1.mono s2).dp, r2.toAny.dp, hh.1, hh.2, h1, h2, h3, z _ _ (s1.trans s2) (.int _)⟩
    · cases q
  | _ => cases q
/-! ### for over a text -/
def signs (x : Str) : List PyData := x.cps.toList.map fun c => .str ⟨#[c]⟩
def mR1s (m : ME) : ML := fun ρ => match m ρ with
  | some (.str x) => some (signs x)
  | _ => none
theorem signs_len (x : Str) : (signs x).length = x.cps.size := by unfold signs; rw [List.length_map, Array.length_toList]
theorem signs_get {x : Str} {j : Nat} {c : Nat} (h : x.cps[j]? = some c) : (signs x)[j]? = some (.str ⟨#[c]⟩) := by
  unfold signs; rw [List.getElem?_map, Array.getElem?_toList, h]; rfl
theorem sm_forS {i : Nat} {tg iter : Expr} {mb : MS} (hp : PassesOwn (model X.prog X.w) X.A X.env X.xe) (hc : X.calm = true) (hi : PEm X B.xo k iter m) (hg : PG X tg (gName i)) (hb : PSsm X B W rk body mb)
    (hs : ∀ x, foldedSetIterable iter X.env x = pure x := by intro _; rfl) : PSm X B W rk (.For tg iter body [] pos) (sFor i (mR1s m) mb) := (ps_for hp hc (pi_str hi) hg hb hs).weak fun D σ H ⟨ρ, φ, E, q⟩ => by
  unfold sFor mR1s at q
  cases h : m ρ with
  | none => rw [h] at q; exact q.elim
  | some d =>
    rw [h] at q
    cases d with
    | str x =>
      refine ⟨ρ, _, E.rd, h, fun v H1 s r => ⟨x, r.toAny.str, ?_⟩⟩
      refine ⟨fun j m σ H => m = x.cps.size - j ∧ j ≤ x.cps.size ∧ ∃ ρ φ, EnvOk X.K B H σ ρ φ ∧ Post X.K B W rk D H φ (forL i mb ((signs x).drop j) ρ), ⟨_, rfl, Nat.zero_le _, ρ, φ, E.same s, q.mono (Ev.same s)⟩, ?_⟩
      rintro j m σ H ⟨rfl, hj, ρ, φ, E, q⟩
      by_cases hlt : j < x.cps.size
      · refine .inr ⟨hlt, _, fun σ' H' z => z, fun v H' y => ?_⟩
        obtain ⟨rfl, c, hc, rfl⟩ := y
        exact turn_body (N := fun σ' H' => ∃ m', m' < x.cps.size - j ∧ m' = x.cps.size - (j + 1) ∧ j + 1 ≤ x.cps.size ∧ ∃ ρ φ, EnvOk X.K B H' σ' ρ φ ∧ Post X.K B W rk D H' φ (forL i mb ((signs x).drop (j + 1)) ρ)) E q (signs_get hc) (.str _) (fun σ' H' ρ' φ' E' w q' => ⟨_, by omega, rfl, hlt, ρ', φ', E', q'⟩) rfl
      · refine .inl ⟨by show x.cps.size ≤ j; omega, ?_⟩
        rw [List.drop_eq_nil_of_le (by rw [signs_len]; omega)] at q
        exact q σ H φ E (Ev.refl _ _)
    | _ => exact q.elim
end
end PL

/- PL, the part for calls that turn own things or raise -/
namespace PL
open PySem PySem.Spec PyProof.Rows L2
/-! ### several slots' own things turn at once -/
theorem EnvOk.turns {K : PySem.W.Frag} {B : Bd} {H H' : Hp} {σ : L2.St} {ρ ρ' : Rho} {φ ψ : Nat → Addr → Prop} {S : Nat → Prop} (h : EnvOk K B H σ ρ φ) (hl : ρ'.length = ρ.length)
    (hS : ∀ i, S i → ∃ x ob ob', ρ[i]? = some (.o ob) ∧ σ[i]? = some (some (.ref x)) ∧ ρ'[i]? = some (.o ob') ∧ OwnRep K H' (ψ i) x ob') (hN : ∀ i, ¬ S i → ρ'[i]? = ρ[i]?)
    (k : ∀ b o, (∀ i, S i → ¬ φ i b) → H b = some o → H' b = some o) (sub : ∀ i b, S i → ψ i b → (∃ l, S l ∧ φ l b) ∨ H b = none) (dj : ∀ i j b, S i → S j → ψ i b → ψ j b → i = j) (st : ∀ i b, S i → φ i b → ∃ o, H' b = some o) :
    EnvOk K B H' σ ρ' (fun i b => (S i ∧ ψ i b) ∨ (¬ S i ∧ φ i b)) ∧ Ev H φ H' (fun i b => (S i ∧ ψ i b) ∨ (¬ S i ∧ φ i b)) := by
  have nS : ∀ {b o}, H b = some o → ¬ Soft o → ∀ i, S i → ¬ φ i b := fun q n i _ z => by obtain ⟨o, q', so⟩ := h.there z; rw [q] at q'; cases q'; exact n so
  have f : Firm H H' := ⟨fun b xs q => k b _ (nS q id) q, fun b o u q => k b _ (nS q id) q⟩
  have old : ∀ j b, φ j b → ∃ o, H b = some o := fun j b z => let ⟨o, q, _⟩ := h.there z; ⟨o, q⟩
  -- an object that was there and is no turning slot's is in none of the new ones
  have nnew : ∀ {b o}, H b = some o → (∀ l, S l → ¬ φ l b) → ∀ i, S i → ¬ ψ i b := fun {b o} q n i hi z => by
    rcases sub i b hi z with ⟨l, h1, h2⟩ | z
    · exact n l h1 h2
    · rw [q] at z; cases z
  refine ⟨⟨by rw [hl]; exact h.len, fun j s q => ?_, fun j q b hb => ?_, fun j l b hj hk => ?_, fun b o n q => ?_, fun b z => ?_, fun j b hb => ?_, fun j y q => ?_, fun j c q => ?_⟩, ⟨fun b o n q => ?_, fun j b hb => ?_⟩⟩
  · by_cases hj : S j
    · obtain ⟨x, ob, ob', q1, q2, q3, r⟩ := hS j hj
      rw [q3] at q
      cases q
      rw [q2]
      have z : (fun b => (S j ∧ ψ j b) ∨ (¬ S j ∧ φ j b)) = ψ j := by funext b; exact propext ⟨fun z => z.elim (fun z => z.2) fun z => absurd hj z.1, fun z => .inl ⟨hj, z⟩⟩
      rw [z]
      exact .o r
    · rw [hN j hj] at q
      have z := h.sl j s q
      have zj : (fun b => (S j ∧ ψ j b) ∨ (¬ S j ∧ φ j b)) = φ j := by funext b; exact propext ⟨fun z => z.elim (fun z => absurd z.1 hj) fun z => z.2, fun z => .inr ⟨hj, z⟩⟩
      rw [zj]
      have un : ∀ {b o}, H b = some o → (¬ ∃ l, φ l b) → ¬ ∃ l, (S l ∧ ψ l b) ∨ (¬ S l ∧ φ l b) := fun {b o} q n ⟨l, z⟩ => by
        rcases z with ⟨z1, z2⟩ | ⟨_, z2⟩
        · exact nnew q (fun l _ z => n ⟨l, z⟩) l z1 z2
        · exact n ⟨l, z2⟩
      generalize σ[j]? = v at z
      cases z with
      | nil z => exact .nil z
      | d r z => exact .d (r.mono f) z
      | b q' r z =>
        refine .b (q'.imp (fun ⟨rd, na⟩ => ?_) id) (r.mono f) z
        rcases rd with y | ⟨o, y⟩
        · exact ⟨.inl (k _ _ (fun i _ z => na ⟨i, z⟩) y), un y na⟩
        · exact ⟨.inr ⟨o, k _ _ (fun i _ z => na ⟨i, z⟩) y⟩, un y na⟩
      | o r => exact .o (r.mono f fun b o hb => k b o (fun i hi z => hj (by rw [h.dis j i b hb z]; exact hi)))
      | r r nr z =>
        refine .r (r.mono f fun b o hb => k b o (fun i _ z => nr b hb ⟨i, z⟩)) (fun b hb => ?_) z
        obtain ⟨o, q, _⟩ := r.soft b hb
        exact un q (nr b hb)
      | x z => exact .x z
  · have hj : ¬ S j := fun z => by obtain ⟨_, _, _, _, _, q3, _⟩ := hS j z; rw [q] at q3; cases q3
    rcases hb with hb | hb
    · exact hj hb.1
    · rw [hN j hj] at q
      exact h.out j q b hb.2
  · rcases hj with ⟨j1, j2⟩ | ⟨j1, j2⟩ <;> rcases hk with ⟨k1, k2⟩ | ⟨k1, k2⟩
    · exact dj j l b j1 k1 j2 k2
    · rcases sub j b j1 j2 with ⟨m, m1, m2⟩ | z
      · exact absurd (by rw [← h.dis m l b m2 k2]; exact m1) k1
      · obtain ⟨o, q⟩ := old l b k2; rw [z] at q; cases q
    · rcases sub l b k1 k2 with ⟨m, m1, m2⟩ | z
      · exact absurd (by rw [← h.dis m j b m2 j2]; exact m1) j1
      · obtain ⟨o, q⟩ := old j b j2; rw [z] at q; cases q
    · exact h.dis j l b j2 k2
  · refine k b o (fun i hi z => ?_) (h.frm b o n q)
    rcases h.sub i b z with z | z
    · exact n z
    · rw [z] at q; cases q
  · by_cases hz : ∃ i, S i ∧ φ i b
    · obtain ⟨i, h1, h2⟩ := hz
      exact st i b h1 h2
    · obtain ⟨o, q⟩ := h.frz b z
      exact ⟨o, k b o (fun i hi z => hz ⟨i, hi, z⟩) q⟩
  · rcases hb with ⟨h1, h2⟩ | ⟨_, h2⟩
    · rcases sub j b h1 h2 with ⟨l, _, z⟩ | z
      · exact h.sub l b z
      · exact .inr (h.new0 z).1
    · exact h.sub j b h2
  · obtain ⟨q1, ob, q2⟩ := h.io j y q
    refine ⟨q1, ?_⟩
    by_cases hj : S j
    · obtain ⟨_, _, ob', _, _, q3, _⟩ := hS j hj
      exact ⟨ob', q3⟩
    · exact ⟨ob, by rw [hN j hj]; exact q2⟩
  · have hj : ¬ S j := fun z => by obtain ⟨_, _, _, _, _, q3, _⟩ := hS j z; rw [q] at q3; cases q3
    rw [hN j hj] at q
    exact h.xo j c q
  · exact k b o (fun i _ z => n ⟨i, z⟩) q
  · rcases hb with ⟨h1, h2⟩ | ⟨_, h2⟩
    · exact (sub j b h1 h2).imp (fun ⟨l, _, z⟩ => ⟨l, z⟩) id
    · exact .inl ⟨j, h2⟩
/-! ### what such an expression's mirror gives -/
inductive XOut where
  | val (d : PyData) (ρ : Rho) | ex (c : Str) (ρ : Rho) | stuck
abbrev MX := Rho → XOut
def PostX (K : PySem.W.Frag) (B : Bd) (W : WX) (σ : L2.St) (Q : VK) (H0 : Hp) (φ0 : Nat → Addr → Prop) : XOut → Prop
  | .val d ρ => ∀ v H φ, EnvOk K B H σ ρ φ → Ev H0 φ0 H φ → Rp K H v d → Q v H
  | .ex c ρ => ∀ H φ, EnvOk K B H σ ρ φ → Ev H0 φ0 H φ → W (.ref (He.ga K c)) none σ H
  | .stuck => False
theorem PostX.mono {K : PySem.W.Frag} {B : Bd} {W : WX} {σ : L2.St} {Q : VK} {H H1 : Hp} {φ φ1 : Nat → Addr → Prop} {o : XOut} (h : PostX K B W σ Q H φ o) (v : Ev H φ H1 φ1) : PostX K B W σ Q H1 φ1 o := by
  cases o with
  | val d ρ => exact fun u H' φ' E w => h u H' φ' E (v.trans w)
  | ex c ρ => exact fun H' φ' E w => h H' φ' E (v.trans w)
  | stuck => exact h
def tX (K : PySem.W.Frag) (B : Bd) (W : WX) (m : MX) : TE := fun σ H Q => ∃ ρ φ, EnvOk K B H σ ρ φ ∧ PostX K B W σ Q H φ (m ρ)
abbrev PXm (X : Cx) (B : Bd) (W : WX) (e : Expr) (m : MX) : Prop := PE X e (tX X.K B W m)
/-! arguments -/
inductive XA where
  | d (d : PyData) | o (i : Nat) | r (i : Nat) | b (i : Nat)
inductive XsOut where
  | vals (as : List XA) (ρ : Rho) | ex (c : Str) (ρ : Rho) | stuck
abbrev MXs := Rho → XsOut
inductive ArgR (K : PySem.W.Frag) (H : Hp) (σ : L2.St) : List V → List XA → Prop
  | nil : ArgR K H σ [] []
  | d {v : V} {d : PyData} {vs as} : Rp K H v d → ArgR K H σ vs as → ArgR K H σ (v :: vs) (.d d :: as)
  | o {v : V} {i : Nat} {vs as} : σ[i]? = some (some v) → ArgR K H σ vs as → ArgR K H σ (v :: vs) (.o i :: as)
  | r {v : V} {i : Nat} {vs as} : σ[i]? = some (some v) → ArgR K H σ vs as → ArgR K H σ (v :: vs) (.r i :: as)
  | b {v : V} {i : Nat} {vs as} : σ[i]? = some (some v) → ArgR K H σ vs as → ArgR K H σ (v :: vs) (.b i :: as)
theorem ArgR.mono {K : PySem.W.Frag} {H H' : Hp} {σ : L2.St} {vs as} (h : ArgR K H σ vs as) (f : Firm H H') : ArgR K H' σ vs as := by
  induction h with
  | nil => exact .nil
  | d r _ ih => exact .d (r.mono f) ih
  | o e _ ih => exact .o e ih
  | r e _ ih => exact .r e ih
  | b e _ ih => exact .b e ih
def PostXs (K : PySem.W.Frag) (B : Bd) (W : WX) (σ : L2.St) (Q : List V → Hp → Prop) (H0 : Hp) (φ0 : Nat → Addr → Prop) : XsOut → Prop
  | .vals as ρ => ∀ vs H φ, EnvOk K B H σ ρ φ → Ev H0 φ0 H φ → ArgR K H σ vs as → Q vs H
  | .ex c ρ => ∀ H φ, EnvOk K B H σ ρ φ → Ev H0 φ0 H φ → W (.ref (He.ga K c)) none σ H
  | .stuck => False
theorem PostXs.mono {K : PySem.W.Frag} {B : Bd} {W : WX} {σ : L2.St} {Q : List V → Hp → Prop} {H H1 : Hp} {φ φ1 : Nat → Addr → Prop} {o : XsOut} (h : PostXs K B W σ Q H φ o) (v : Ev H φ H1 φ1) : PostXs K B W σ Q H1 φ1 o := by
  cases o with
  | vals as ρ => exact fun u H' φ' E w => h u H' φ' E (v.trans w)
  | ex c ρ => exact fun H' φ' E w => h H' φ' E (v.trans w)
  | stuck => exact h
def tXs (K : PySem.W.Frag) (B : Bd) (W : WX) (m : MXs) : TA := fun σ H Q => ∃ ρ φ, EnvOk K B H σ ρ φ ∧ PostXs K B W σ Q H φ (m ρ)
abbrev PXs (X : Cx) (B : Bd) (W : WX) (es : List Expr) (m : MXs) : Prop := PA X es (tXs X.K B W m)
/-- slots handed in as such -/
def slOf (ρ : Rho) : XA → Option Sl
  | .d d => some (.d d)
  | .o i => match ρ[i]? with
    | some (.o ob) => some (.o ob)
    | _ => none
  | .r i => match ρ[i]? with
    | some (.o ob) => some (.r ob)
    | some (.r ob) => some (.r ob)
    | _ => none
  | .b i => match ρ[i]? with
    | some (.b ds) => some (.b ds)
    | some (.o (.lst ds)) => some (.b ds)
    | _ => none
theorem slOf_d {ρ : Rho} {d : PyData} {s : Sl} (h : slOf ρ (.d d) = some s) : s = .d d := (Option.some.inj h).symm
theorem slOf_o {ρ : Rho} {i : Nat} {s : Sl} (h : slOf ρ (.o i) = some s) : ∃ ob, ρ[i]? = some (.o ob) ∧ s = .o ob := by
  simp only [slOf] at h
  split at h
  · rename_i ob e; exact ⟨ob, e, (Option.some.inj h).symm⟩
  · cases h
theorem slOf_r {ρ : Rho} {i : Nat} {s : Sl} (h : slOf ρ (.r i) = some s) : ∃ ob, (ρ[i]? = some (.o ob) ∨ ρ[i]? = some (.r ob)) ∧ s = .r ob := by
  simp only [slOf] at h
  split at h
  · rename_i ob e; exact ⟨ob, .inl e, (Option.some.inj h).symm⟩
  · rename_i ob e; exact ⟨ob, .inr e, (Option.some.inj h).symm⟩
  · cases h
theorem slOf_b {ρ : Rho} {i : Nat} {s : Sl} (h : slOf ρ (.b i) = some s) : ∃ ds, (ρ[i]? = some (.b ds) ∨ ρ[i]? = some (.o (.lst ds))) ∧ s = .b ds := by
  simp only [slOf] at h
  split at h
  · rename_i ob e; exact ⟨ob, .inl e, (Option.some.inj h).symm⟩
  · rename_i ob e; exact ⟨ob, .inr e, (Option.some.inj h).symm⟩
  · cases h
def slsOf (ρ : Rho) : List XA → Option (List Sl)
  | [] => some []
  | a :: as => (slOf ρ a).bind fun s => (slsOf ρ as).map (s :: ·)
def oix : List XA → List Nat
  | [] => []
  | .o i :: as => i :: oix as
  | _ :: as => oix as
def rix : List XA → List Nat
  | [] => []
  | .r i :: as => i :: rix as
  | .b i :: as => i :: rix as
  | _ :: as => rix as
def okA (as : List XA) : Bool := decide (oix as).Nodup && (rix as).all fun i => !(oix as).contains i
def putB : List XA → List Ob → Rho → Rho
  | .o i :: as, ob :: obs, ρ => putB as obs (ρ.set i (.o ob))
  | .o _ :: _, [], ρ => ρ
  | _ :: as, obs, ρ => putB as obs ρ
  | [], _, ρ => ρ
theorem putB_len : ∀ (as : List XA) (obs : List Ob) (ρ : Rho), (putB as obs ρ).length = ρ.length
  | [], _, _ => rfl
  | .d _ :: as, obs, ρ => putB_len as obs ρ
  | .r _ :: as, obs, ρ => putB_len as obs ρ
  | .b _ :: as, obs, ρ => putB_len as obs ρ
  | .o i :: as, [], ρ => rfl
  | .o i :: as, ob :: obs, ρ => by rw [putB, putB_len as obs, List.length_set]
theorem putB_ne : ∀ (as : List XA) (obs : List Ob) (ρ : Rho) (i : Nat), i ∉ oix as → (putB as obs ρ)[i]? = ρ[i]?
  | [], _, _, _, _ => rfl
  | .d _ :: as, obs, ρ, i, h => putB_ne as obs ρ i h
  | .r _ :: as, obs, ρ, i, h => putB_ne as obs ρ i h
  | .b _ :: as, obs, ρ, i, h => putB_ne as obs ρ i h
  | .o j :: as, [], ρ, i, h => rfl
  | .o j :: as, ob :: obs, ρ, i, h => by
    rw [oix, List.mem_cons, not_or] at h
    rw [putB, putB_ne as obs _ i h.2, List.getElem?_set_ne (Ne.symm h.1)]
theorem slsOf_get {ρ : Rho} : ∀ {as : List XA} {sls : List Sl}, slsOf ρ as = some sls → sls.length = as.length ∧ ∀ (j : Nat) (a : XA), as[j]? = some a → ∃ s, sls[j]? = some s ∧ slOf ρ a = some s
  | [], sls, h => by cases h; exact ⟨rfl, fun j a q => by simp at q⟩
  | a :: as, sls, h => by
    obtain ⟨s, h1, h⟩ := Option.bind_eq_some_iff.mp h
    obtain ⟨ss, h2, rfl⟩ := Option.map_eq_some_iff.mp h
    obtain ⟨l, g⟩ := slsOf_get h2
    refine ⟨by simp [l], fun j b q => ?_⟩
    cases j with
    | zero => simp at q; subst q; exact ⟨s, rfl, h1⟩
    | succ j => obtain ⟨s', q1, q2⟩ := g j b (by simpa using q); exact ⟨s', by simpa using q1, q2⟩
theorem putB_at {ρ0 : Rho} : ∀ {as : List XA} {sls : List Sl} (_ : slsOf ρ0 as = some sls) (ρr ρ : Rho), (oix as).Nodup → (∀ (j i : Nat), as[j]? = some (.o i) → ∃ ob, ρr[j]? = some (.o ob)) → ∀ (j i : Nat) (ob : Ob), as[j]? = some (.o i) → ρr[j]? = some (.o ob) → i < ρ.length →
    (putB as (outs sls ρr) ρ)[i]? = some (.o ob)
  | [], _, _, _, _, _, _, j, i, ob, q, _, _ => by simp at q
  | a :: as, sls, h, ρr, ρ, nd, hr, j, i, ob, q1, q2, hl => by
    obtain ⟨s, h1, h⟩ := Option.bind_eq_some_iff.mp h
    obtain ⟨ss, h2, rfl⟩ := Option.map_eq_some_iff.mp h
    match ρr, hr, q2 with
    | [], hr, q2 => simp at q2
    | r :: ρr, hr, q2 =>
      have hr' : ∀ (j i : Nat), as[j]? = some (.o i) → ∃ ob, ρr[j]? = some (.o ob) := fun j i q => hr (j + 1) i (by simpa using q)
      have own : (∃ k, a = .o k) ∨ ((∀ k, a ≠ .o k) ∧ (∀ ob, s ≠ .o ob)) := by
        cases a with
        | o k => exact .inl ⟨k, rfl⟩
        | d d => exact .inr ⟨(by intro k z; cases z), fun ob z => by rw [slOf_d h1] at z; cases z⟩
        | r k => exact .inr ⟨(by intro k z; cases z), fun ob z => by obtain ⟨_, _, e⟩ := slOf_r h1; rw [e] at z; cases z⟩
        | b k => exact .inr ⟨(by intro k z; cases z), fun ob z => by obtain ⟨_, _, e⟩ := slOf_b h1; rw [e] at z; cases z⟩
      rcases own with ⟨k, rfl⟩ | ⟨na, ns⟩
      · obtain ⟨ob0, e0⟩ := hr 0 k rfl
        simp at e0
        subst e0
        obtain ⟨ob1, _, rfl⟩ := slOf_o h1
        rw [outs, putB]
        rw [oix, List.nodup_cons] at nd
        cases j with
        | zero =>
          simp at q1 q2
          subst q1
          subst q2
          rw [putB_ne _ _ _ _ nd.1, List.getElem?_set_self hl]
        | succ j => exact putB_at h2 ρr _ nd.2 hr' j i ob (by simpa using q1) (by simpa using q2) (by simpa using hl)
      · have eo : outs (s :: ss) (r :: ρr) = outs ss ρr := by
          cases s with
          | o ob => exact absurd rfl (ns ob)
          | _ => rfl
        have ep : ∀ obs, putB (a :: as) obs ρ = putB as obs ρ := fun obs => by
          cases a with
          | o k => exact absurd rfl (na k)
          | _ => rfl
        have nd' : (oix as).Nodup := by
          cases a with
          | o k => exact absurd rfl (na k)
          | _ => exact nd
        rw [eo, ep]
        cases j with
        | zero => simp at q1; exact absurd q1 (na i)
        | succ j => exact putB_at h2 ρr _ nd' hr' j i ob (by simpa using q1) (by simpa using q2) hl
theorem oix_mem : ∀ {as : List XA} {i : Nat}, i ∈ oix as ↔ ∃ j : Nat, as[j]? = some (.o i)
  | [], i => by simp [oix]
  | a :: as, i => by
    have ih := oix_mem (as := as) (i := i)
    constructor
    · intro h
      cases a with
      | o k =>
        rw [oix, List.mem_cons] at h
        rcases h with rfl | h
        · exact ⟨0, rfl⟩
        · obtain ⟨j, q⟩ := ih.mp h; exact ⟨j + 1, by simpa using q⟩
      | _ => obtain ⟨j, q⟩ := ih.mp h; exact ⟨j + 1, by simpa using q⟩
    · rintro ⟨j, q⟩
      cases j with
      | zero => simp at q; subst q; rw [oix]; exact List.mem_cons_self
      | succ j =>
        have := ih.mpr ⟨j, by simpa using q⟩
        cases a with
        | o k => rw [oix]; exact List.mem_cons_of_mem _ this
        | _ => exact this
theorem oix_inj : ∀ {as : List XA} {i j k : Nat}, (oix as).Nodup → as[j]? = some (.o i) → as[k]? = some (.o i) → j = k
  | [], _, _, _, _, q, _ => by simp at q
  | a :: as, i, j, k, nd, q1, q2 => by
    have tail : (oix as).Nodup := by
      cases a with
      | o k => rw [oix, List.nodup_cons] at nd; exact nd.2
      | _ => exact nd
    cases j with
    | zero =>
      simp at q1
      subst q1
      cases k with
      | zero => rfl
      | succ k =>
        rw [oix, List.nodup_cons] at nd
        exact absurd (oix_mem.mpr ⟨k, by simpa using q2⟩) nd.1
    | succ j =>
      cases k with
      | zero =>
        simp at q2
        subst q2
        rw [oix, List.nodup_cons] at nd
        exact absurd (oix_mem.mpr ⟨j, by simpa using q1⟩) nd.1
      | succ k => exact congrArg Nat.succ (oix_inj (i := i) tail (by simpa using q1) (by simpa using q2))
theorem rix_mem : ∀ {as : List XA} {i j : Nat}, (as[j]? = some (XA.r i) ∨ as[j]? = some (XA.b i)) → i ∈ rix as
  | [], _, _, q => by simp at q
  | a :: as, i, j, q => by
    cases j with
    | zero =>
      simp at q
      rcases q with q | q
      · subst q; exact List.mem_cons_self
      · subst q; exact List.mem_cons_self
    | succ j =>
      have := rix_mem (as := as) (i := i) (j := j) (by simpa using q)
      cases a with
      | r k => rw [rix]; exact List.mem_cons_of_mem _ this
      | b k => rw [rix]; exact List.mem_cons_of_mem _ this
      | _ => exact this
def argIs (K : PySem.W.Frag) (H : Hp) (σ : L2.St) (v : V) : XA → Prop
  | .d d => Rp K H v d
  | .o i => σ[i]? = some (some v)
  | .r i => σ[i]? = some (some v)
  | .b i => σ[i]? = some (some v)
theorem ArgR.get {K : PySem.W.Frag} {H : Hp} {σ : L2.St} {vs : List V} {as : List XA} (h : ArgR K H σ vs as) : vs.length = as.length ∧ ∀ (j : Nat) (a : XA), as[j]? = some a → ∃ v, vs[j]? = some v ∧ argIs K H σ v a := by
  induction h with
  | nil => exact ⟨rfl, fun j a q => by simp at q⟩
  | d r _ ih =>
    refine ⟨congrArg Nat.succ ih.1, fun j a q => ?_⟩
    cases j with
    | zero => simp at q; subst q; exact ⟨_, rfl, r⟩
    | succ j => obtain ⟨v, h1, h2⟩ := ih.2 j a (by simpa using q); exact ⟨v, by simpa using h1, h2⟩
  | o r _ ih =>
    refine ⟨congrArg Nat.succ ih.1, fun j a q => ?_⟩
    cases j with
    | zero => simp at q; subst q; exact ⟨_, rfl, r⟩
    | succ j => obtain ⟨v, h1, h2⟩ := ih.2 j a (by simpa using q); exact ⟨v, by simpa using h1, h2⟩
  | r r _ ih =>
    refine ⟨congrArg Nat.succ ih.1, fun j a q => ?_⟩
    cases j with
    | zero => simp at q; subst q; exact ⟨_, rfl, r⟩
    | succ j => obtain ⟨v, h1, h2⟩ := ih.2 j a (by simpa using q); exact ⟨v, by simpa using h1, h2⟩
  | b r _ ih =>
    refine ⟨congrArg Nat.succ ih.1, fun j a q => ?_⟩
    cases j with
    | zero => simp at q; subst q; exact ⟨_, rfl, r⟩
    | succ j => obtain ⟨v, h1, h2⟩ := ih.2 j a (by simpa using q); exact ⟨v, by simpa using h1, h2⟩
end PL

namespace PL
open PySem PySem.Spec PyProof.Rows L2
/-! ### a call that may turn what is handed in -/
def phiOf (as : List XA) (φ : Nat → Addr → Prop) (j : Nat) (b : Addr) : Prop := ∃ i, as[j]? = some (.o i) ∧ φ i b
theorem okA_nd {as : List XA} (h : okA as = true) : (oix as).Nodup := of_decide_eq_true (Bool.and_eq_true_iff.mp h).1
theorem okA_no {as : List XA} (h : okA as = true) {i : Nat} (hi : i ∈ rix as) : i ∉ oix as := by
  have z := List.all_eq_true.mp (Bool.and_eq_true_iff.mp h).2 i hi
  intro m
  have : (oix as).contains i = true := List.contains_iff_mem.mpr m
  rw [this] at z
  cases z
theorem slOf_nx {ρ : Rho} {a : XA} {s : Sl} (h : slOf ρ a = some s) : ∀ c, s ≠ .x c := by
  intro c z
  subst z
  cases a with
  | d d => cases slOf_d h
  | o i => obtain ⟨_, _, e⟩ := slOf_o h; cases e
  | r i => obtain ⟨_, _, e⟩ := slOf_r h; cases e
  | b i => obtain ⟨_, _, e⟩ := slOf_b h; cases e
section
variable {K : PySem.W.Frag} {B : Bd} {H : Hp} {σ : L2.St} {ρ : Rho} {φ : Nat → Addr → Prop} {vs : List V} {as : List XA} {sls : List Sl}
theorem back_get (r : ArgR K H σ vs as) (e : slsOf ρ as = some sls) {j : Nat} {s : Sl} (q : sls[j]? = some s) : ∃ a v, as[j]? = some a ∧ slOf ρ a = some s ∧ vs[j]? = some v ∧ argIs K H σ v a := by
  obtain ⟨l, g⟩ := slsOf_get e
  have hj : j < as.length := by rw [← l]; exact (List.getElem?_eq_some_iff.mp q).1
  obtain ⟨s', q1, q2⟩ := g j as[j] (List.getElem?_eq_getElem hj)
  rw [q] at q1
  cases q1
  obtain ⟨v, q3, q4⟩ := r.get.2 j as[j] (List.getElem?_eq_getElem hj)
  exact ⟨_, v, List.getElem?_eq_getElem hj, q2, q3, q4⟩
theorem ArgR.argsOk (h : EnvOk K B H σ ρ φ) (r : ArgR K H σ vs as) (e : slsOf ρ as = some sls) (ok : okA as = true) : ArgsOk K H vs sls (phiOf as φ) := by
  obtain ⟨l, g⟩ := slsOf_get e
  have lv := r.get.1
  refine ⟨by rw [List.length_map, lv, l], fun j s q => ?_, fun j q b ⟨i, z, _⟩ => ?_, fun i j b ⟨i1, z1, y1⟩ ⟨i2, z2, y2⟩ => ?_, fun b o _ q => q, fun b ⟨j, i, z, y⟩ => let ⟨u, q, _⟩ := h.there y; ⟨u, q⟩, fun j b z => .inl ⟨j, z⟩, fun j x q => ?_, fun j c q => ?_⟩
  · obtain ⟨a, v, q1, q2, q3, q4⟩ := back_get r e q
    rw [List.getElem?_map, q3]
    show SlOk K H (fun b => ∃ j, phiOf as φ j b) (phiOf as φ j) (some (some v)) s
    have none_ : (∀ i, a ≠ .o i) → ∀ b, ¬ phiOf as φ j b := fun n b ⟨i, z, _⟩ => by rw [q1] at z; exact n i (Option.some.inj z)
    have apart : ∀ i, i ∈ rix as → ∀ b, φ i b → ¬ ∃ j, phiOf as φ j b := fun i hi b hb ⟨j, k, z, y⟩ => by
      have := h.dis i k b hb y
      subst this
      exact okA_no ok hi (oix_mem.mpr ⟨j, z⟩)
    cases a with
    | d d => rw [slOf_d q2]; exact .d q4 (none_ (by intro i z; cases z))
    | o i =>
      obtain ⟨ob, y1, rfl⟩ := slOf_o q2
      obtain ⟨x, y2, y3⟩ := h.own y1
      have q4 : σ[i]? = some (some v) := q4
      rw [y2] at q4
      cases q4
      have z : phiOf as φ j = φ i := by
        funext b
        exact propext ⟨fun ⟨k, z1, z2⟩ => by rw [q1] at z1; cases z1; exact z2, fun z => ⟨i, q1, z⟩⟩
      rw [z]
      exact .o y3
    | r i =>
      obtain ⟨ob, y1, rfl⟩ := slOf_r q2
      have hi := rix_mem (.inl q1)
      have q4 : σ[i]? = some (some v) := q4
      rcases y1 with y1 | y1
      · obtain ⟨x, y2, y3⟩ := h.own y1
        rw [y2] at q4
        cases q4
        exact .r y3 (apart i hi) (none_ (by intro i z; cases z))
      · have z := h.sl i _ y1
        rw [q4] at z
        generalize ew : some (some v) = w at z
        cases z with
        | r r1 r2 _ =>
          cases ew
          exact .r r1 (fun b hb ⟨j, k, z, y⟩ => r2 b hb ⟨k, y⟩) (none_ (by intro i z; cases z))
    | b i =>
      obtain ⟨ds, y1, rfl⟩ := slOf_b q2
      have hi := rix_mem (.inr q1)
      have q4 : σ[i]? = some (some v) := q4
      rcases y1 with y1 | y1
      · have z := h.sl i _ y1
        rw [q4] at z
        generalize ew : some (some v) = w at z
        cases z with
        | b r1 r2 _ =>
          cases ew
          exact .b (r1.imp (fun ⟨z1, z2⟩ => ⟨z1, fun ⟨j, k, z, y⟩ => z2 ⟨k, y⟩⟩) id) r2 (none_ (by intro i z; cases z))
      · obtain ⟨x, y2, y3⟩ := h.own y1
        rw [y2] at q4
        cases q4
        generalize hfp : φ i = fp at y3
        cases y3 with
        | lst z1 z2 => exact .b (.inl ⟨.inl z1, apart i hi x (by rw [hfp])⟩) z2 (none_ (by intro i z; cases z))
  · have hj : j < sls.length := by rw [l]; exact (List.getElem?_eq_some_iff.mp z).1
    rw [List.getElem?_eq_getElem hj] at q
    cases q
  · have := h.dis i1 i2 b y1 y2
    subst this
    exact oix_inj (okA_nd ok) z1 z2
  · have q : ioOf vs sls j = some x := q
    unfold ioOf at q
    split at q
    · rename_i ob y h1 h2
      cases q
      exact ⟨by rw [List.getElem?_map, h2]; rfl, ob, h1⟩
    · cases q
  · obtain ⟨a, v, _, q2, _, _⟩ := back_get r e q
    exact absurd rfl (slOf_nx q2 c)
/-- behind it -/
theorem ArgR.back {H' : Hp} {obs : List Ob} {φ' : Nat → Addr → Prop} (h : EnvOk K B H σ ρ φ) (r : ArgR K H σ vs as) (e : slsOf ρ as = some sls) (ok : okA as = true) (O : OutOk K H vs sls (phiOf as φ) H' obs φ') :
    ∃ ψ, EnvOk K B H' σ (putB as obs ρ) ψ ∧ Ev H φ H' ψ := by
  obtain ⟨ρr, eo, own⟩ := O.own
  have nd := okA_nd ok
  have ats : ∀ j i, as[j]? = some (.o i) → ∃ x ob ob', ρ[i]? = some (.o ob) ∧ σ[i]? = some (some (.ref x)) ∧ ρr[j]? = some (.o ob') ∧ OwnRep K H' (φ' j) x ob' := fun j i q => by
    obtain ⟨s, q1, q2⟩ := (slsOf_get e).2 j _ q
    obtain ⟨ob, y1, rfl⟩ := slOf_o q2
    obtain ⟨x, ob', z1, z2, z3⟩ := own j ob q1
    obtain ⟨v, q3, q4⟩ := r.get.2 j _ q
    rw [z1] at q3
    cases q3
    exact ⟨x, ob, ob', y1, q4, z2, z3⟩
  refine ⟨_, EnvOk.turns (S := fun i => i ∈ oix as) (ψ := fun i b => ∃ j, as[j]? = some (.o i) ∧ φ' j b) h (putB_len _ _ _) (fun i hi => ?_) (fun i hi => putB_ne _ _ _ _ hi) (fun b o n q => O.ev.st b o (fun ⟨j, i, z, y⟩ => n i (oix_mem.mpr ⟨j, z⟩) y) q) (fun i b hi ⟨j, z, y⟩ => ?_)
    (fun i k b hi hk ⟨j1, z1, y1⟩ ⟨j2, z2, y2⟩ => ?_) fun i b hi hb => ?_⟩
  · obtain ⟨j, q⟩ := oix_mem.mp hi
    obtain ⟨x, ob, ob', y1, y2, y3, y4⟩ := ats j i q
    refine ⟨x, ob, ob', y1, y2, ?_, ?_⟩
    · rw [eo]
      exact putB_at e ρr ρ nd (fun j i q => let ⟨_, _, ob', _, _, z, _⟩ := ats j i q; ⟨ob', z⟩) j i ob' q y3 (List.getElem?_eq_some_iff.mp y1).1
    · have z : (fun b => ∃ j, as[j]? = some (.o i) ∧ φ' j b) = φ' j := by
        funext b
        exact propext ⟨fun ⟨k, z1, z2⟩ => by rw [oix_inj nd q z1]; exact z2, fun z => ⟨j, q, z⟩⟩
      rw [z]
      exact y4
  · rcases O.ev.sub j b y with ⟨l, k, z1, z2⟩ | z
    · exact .inl ⟨k, oix_mem.mpr ⟨l, z1⟩, z2⟩
    · exact .inr z
  · have := O.dis j1 j2 b y1 y2
    subst this
    rw [z1] at z2
    cases z2
    rfl
  · obtain ⟨j, q⟩ := oix_mem.mp hi
    exact O.th b ⟨j, i, q, hb⟩
end
def xFin (as : List XA) (ρ : Rho) : FOut → XOut
  | .ret d obs => .val d (putB as obs ρ)
  | .ex c obs => .ex c (putB as obs ρ)
  | .stuck => .stuck
def xCall (fm : FM) (ms : MXs) : MX := fun ρ => match ms ρ with
  | .vals as ρ' => match okA as, slsOf ρ' as with
    | true, some sls => xFin as ρ' (fm sls)
    | _, _ => .stuck
  | .ex c ρ' => .ex c ρ'
  | .stuck => .stuck
section
variable {X : Cx} {B : Bd} {W : WX} {e o : Expr} {es : List Expr} {m : ME} {mx : MX} {ms : MXs} {k : Kd} {pos p apos : Pos} {x : Str} {n : Nat} {fm : FM}
theorem xCall_sp {σ : L2.St} {H : Hp} {Q : VK} {ρ : Rho} {φ : Nat → Addr → Prop} {vs : List V} {as : List XA} {H0 : Hp} {φ0 : Nat → Addr → Prop} (E : EnvOk X.K B H σ ρ φ) (v : Ev H0 φ0 H φ) (r : ArgR X.K H σ vs as)
    (q : PostX X.K B W σ Q H0 φ0 (match okA as, slsOf ρ as with
    | true, some sls => xFin as ρ (fm sls)
    | _, _ => .stuck)) : spM X.K .per fm vs H Q (WE W σ) := by
  cases ok : okA as with
  | false => rw [ok] at q; exact q.elim
  | true =>
    rw [ok] at q
    cases es : slsOf ρ as with
    | none => rw [es] at q; exact q.elim
    | some sls =>
      rw [es] at q
      refine ⟨sls, _, r.argsOk E es ok, ?_⟩
      have q : PostX X.K B W σ Q H0 φ0 (xFin as ρ (fm sls)) := q
      cases ef : fm sls with
      | ret d obs =>
        rw [ef] at q
        intro u H' φ' O rv
        obtain ⟨ψ, E', v'⟩ := r.back E es ok O
        exact q u H' ψ E' (v.trans v') rv
      | ex c obs =>
        rw [ef] at q
        intro H' φ' O
        obtain ⟨ψ, E', v'⟩ := r.back E es ok O
        exact q H' ψ E' (v.trans v')
      | stuck => rw [ef] at q; exact q.elim
theorem xCall_tx {σ : L2.St} {H : Hp} {Q : VK} (h : tX X.K B W (xCall fm ms) σ H Q) : tCallS (spM X.K .per fm) (WE W) (tXs X.K B W ms) σ H Q := by
  obtain ⟨ρ, φ, E, q⟩ := h
  refine ⟨ρ, φ, E, ?_⟩
  unfold xCall at q
  cases e1 : ms ρ with
  | stuck => rw [e1] at q; exact q.elim
  | ex c ρ' => rw [e1] at q; exact q
  | vals as ρ' =>
    rw [e1] at q
    exact fun vs H' φ' E' v r => xCall_sp E' v r q
/-! the arguments' mirrors -/
def xNil : MXs := fun ρ => .vals [] ρ
def xCons (m : MX) (ms : MXs) : MXs := fun ρ => match m ρ with
  | .val d ρ1 => match ms ρ1 with
    | .vals as ρ2 => .vals (.d d :: as) ρ2
    | o => o
  | .ex c ρ1 => .ex c ρ1
  | .stuck => .stuck
def xSlot (a : XA) (ms : MXs) : MXs := fun ρ => match slOf ρ a with
  | some _ => match ms ρ with
    | .vals as ρ2 => .vals (a :: as) ρ2
    | o => o
  | none => .stuck
theorem xa_nil : PXs X B W [] xNil := pa_nil.weak fun σ H Q ⟨ρ, φ, E, q⟩ => q [] H φ E (Ev.refl _ _) .nil
theorem xa_cons (ha : PXm X B W e mx) (hr : PXs X B W es ms) (hs : starEach (e :: es) X.env = (false, eval e X.env) :: starEach es X.env := by rfl) : PXs X B W (e :: es) (xCons mx ms) := (pa_cons ha hr hs).weak fun σ H Q ⟨ρ, φ, E, q⟩ => by
  refine ⟨ρ, φ, E, ?_⟩
  unfold xCons at q
  cases e1 : mx ρ with
  | stuck => rw [e1] at q; exact q.elim
  | ex c ρ' => rw [e1] at q; exact q
  | val d ρ1 =>
    rw [e1] at q
    intro v H1 φ1 E1 v1 r1
    refine ⟨ρ1, φ1, E1, ?_⟩
    have q : PostXs X.K B W σ Q H φ (match ms ρ1 with
      | .vals as ρ2 => .vals (.d d :: as) ρ2
      | o => o) := q
    cases e2 : ms ρ1 with
    | stuck => rw [e2] at q; exact q.elim
    | ex c ρ' => rw [e2] at q; exact fun H' φ' E' v' => q H' φ' E' (v1.trans v')
    | vals as ρ2 =>
      rw [e2] at q
      exact fun vs H' φ' E' v' r => q _ H' φ' E' (v1.trans v') (.d (r1.mono (v'.firm E1)) r)
/-- a slot's thing handed in as such -/
theorem xa_slot {a : XA} {i : Nat} (hi : a = .o i ∨ a = .r i ∨ a = .b i) {y : Str} (hN : X.N[i]? = some y) (hr : PXs X B W es ms) (hv : Vis X.env.scope y := by first | exact Or.inl rfl | exact Or.inr (Or.inl rfl) | exact Or.inr (Or.inr rfl)) (hd : (y == ("__debug__" : Str)) = false := by decide)
    (hcd : (y == ("__classdict__" : Str)) = false := by decide) (hs : starEach (.Name y p :: es) X.env = (false, eval (.Name y p) X.env) :: starEach es X.env := by rfl) :
    PXs X B W (.Name y p :: es) (xSlot a ms) := (pa_cons (pe_var (i := i) hN hv hd hcd) hr hs).weak fun σ H Q ⟨ρ, φ, E, q⟩ => by
  unfold xSlot at q
  cases e1 : slOf ρ a with
  | none => rw [e1] at q; exact q.elim
  | some s =>
    rw [e1] at q
    have hv : ∃ v, σ[i]? = some (some v) := by
      rcases hi with rfl | rfl | rfl
      · obtain ⟨ob, y1, _⟩ := slOf_o e1
        obtain ⟨x, y2, _⟩ := E.own y1
        exact ⟨_, y2⟩
      · obtain ⟨ob, y1, _⟩ := slOf_r e1
        rcases y1 with y1 | y1
        · obtain ⟨x, y2, _⟩ := E.own y1
          exact ⟨_, y2⟩
        · have z := E.sl i _ y1
          generalize σ[i]? = w at z ⊢
          cases z with
          | r _ _ _ => exact ⟨_, rfl⟩
      · obtain ⟨ds, y1, _⟩ := slOf_b e1
        rcases y1 with y1 | y1
        · have z := E.sl i _ y1
          generalize σ[i]? = w at z ⊢
          cases z with
          | b _ _ _ => exact ⟨_, rfl⟩
        · obtain ⟨x, y2, _⟩ := E.own y1
          exact ⟨_, y2⟩
    obtain ⟨v, hv⟩ := hv
    refine ⟨v, hv, ρ, φ, E, ?_⟩
    have q : PostXs X.K B W σ Q H φ (match ms ρ with
      | .vals as ρ2 => .vals (a :: as) ρ2
      | o => o) := q
    cases e2 : ms ρ with
    | stuck => rw [e2] at q; exact q.elim
    | ex c ρ' => rw [e2] at q; exact q
    | vals as ρ2 =>
      rw [e2] at q
      intro vs H' φ' E' v' r
      refine q _ H' φ' E' v' ?_
      rcases hi with rfl | rfl | rfl
      · exact .o hv r
      · exact .r hv r
      · exact .b hv r
end
end PL

namespace PL
open PySem PySem.Spec PyProof.Rows L2
section
variable {X : Cx} {B : Bd} {W : WX} {rk : Kd} {st : Stmt} {rest body els : List Stmt} {e a b c : Expr} {es : List Expr} {m ma mb : ME} {mx nx : MX} {ms : MXs} {mt : MT} {s1 s2 : MS} {k k1 k2 : Kd} {pos p apos : Pos} {x : Str} {n : Nat} {fm : FM}
/-! ### expressions that may turn things -/
def xE (m : ME) : MX := fun ρ => match m ρ with
  | some d => .val d ρ
  | none => .stuck
theorem px (h : PEm X B.xo .per e m) : PXm X B W e (xE m) := h.weak fun σ H Q ⟨ρ, φ, E, q⟩ => by
  unfold xE at q
  cases e1 : m ρ with
  | none => rw [e1] at q; exact q.elim
  | some d => rw [e1] at q; exact ⟨ρ, d, E.rd, e1, fun v H' s r => q v H' φ (E.same s) (Ev.same s) r⟩
theorem px_call (tk : Takes X W) (G : FnT X.prog X.w X.K X.mg X.base n x .per fm) (hr : Room n X.A) (hg : Gl X x) (ha : PXs X B W (e :: es) ms) (hdb : (x == ("__debug__" : Str)) = false := by decide) (he : starEach (e :: es) X.env = (false, eval e X.env) :: starEach es X.env := by rfl)
    (hpl : (backTo pos (starEach es X.env)).any (·.1) = false := by rfl) : PXm X B W (.Call (.Name x p) (e :: es) [] pos) (xCall fm ms) := by
  obtain ⟨f, fd, ps, F, hm, hk, hb⟩ := G.ex
  exact (pe_callS F hr hg hm hk hb (fun σ => passAt tk σ) ha hdb he hpl).weak fun _ _ _ h => xCall_tx h
/-- a new list that comes behind is frozen -/
theorem out_frz {K : PySem.W.Frag} {σ : L2.St} {Q : VK} {H0 H2 H' : Hp} {φ0 φ2 : Nat → Addr → Prop} {ρ : Rho} {v : V} {d : PyData} (hk : k ≠ .any) (E : EnvOk K B H2 σ ρ φ2) (w : Ev H0 φ0 H2 φ2) (q : ∀ v H φ, EnvOk K B H σ ρ φ → Ev H0 φ0 H φ → Rp K H v d → Q v H) (s : Same H2 H') (r : RK K k H2 H' v d) :
    Q v H' ∨ ∃ a xs, v = .ref a ∧ H' a = some (.lst xs) ∧ ∀ o, Q v (upd H' a (.frz o (.lst xs))) := by
  have new : (∃ a xs ds, v = .ref a ∧ d = .list ds ∧ H2 a = none ∧ H' a = some (.lst xs) ∧ Rps K H' xs ds) → Q v H' ∨ ∃ a xs, v = .ref a ∧ H' a = some (.lst xs) ∧ ∀ o, Q v (upd H' a (.frz o (.lst xs))) := fun ⟨a, xs, ds, ev, ed, nn, ea, r2⟩ => by
    subst ev
    subst ed
    refine .inr ⟨a, xs, rfl, ea, fun o => ?_⟩
    have s2 : Same H2 (upd H' a (.frz o (.lst xs))) := fun b u z => by rw [upd_ne (ne_of_none z nn)]; exact s b u z
    have f : Firm H' (upd H' a (.frz o (.lst xs))) := ⟨fun b ys z => by rw [upd_ne (ne_of z ea (by intro z; cases z))]; exact z, fun b o u z => by rw [upd_ne (ne_of z ea (by intro z; cases z))]; exact z⟩
    exact q _ _ φ2 (E.same s2) (w.trans (Ev.same s2)) (.lst upd_same (r2.mono f))
  cases k with
  | per => exact .inl (q v H' φ2 (E.same s) (w.trans (Ev.same s)) r)
  | new => exact new r
  | fre => exact r.elim (fun r => .inl (q v H' φ2 (E.same s) (w.trans (Ev.same s)) r)) new
  | any => exact absurd rfl hk
def xOut (d : Option PyData) (ρ : Rho) : XOut := match d with
  | some d => .val d ρ
  | none => .stuck
def xUn (f : PyData → Option PyData) (m : MX) : MX := fun ρ => match m ρ with
  | .val x ρ1 => xOut (f x) ρ1
  | o => o
def xBin (f : PyData → PyData → Option PyData) (m n : MX) : MX := fun ρ => match m ρ with
  | .val x ρ1 => match n ρ1 with
    | .val y ρ2 => xOut (f x y) ρ2
    | o => o
  | o => o
theorem PostX.out {K : PySem.W.Frag} {σ : L2.St} {Q : VK} {H : Hp} {φ : Nat → Addr → Prop} {d : Option PyData} {ρ : Rho} (h : PostX K B W σ Q H φ (xOut d ρ)) : ∃ y, d = some y ∧ ∀ v H1 φ1, EnvOk K B H1 σ ρ φ1 → Ev H φ H1 φ1 → Rp K H1 v y → Q v H1 := by
  cases d with
  | none => exact h.elim
  | some y => exact ⟨y, rfl, h⟩
/-- one argument's reading -/
theorem tX_val {σ : L2.St} {H : Hp} {Q Q' : VK} {ρ : Rho} {φ : Nat → Addr → Prop} {f : PyData → Rho → XOut} (E : EnvOk X.K B H σ ρ φ) (q : PostX X.K B W σ Q H φ (match mx ρ with
    | .val x ρ1 => f x ρ1
    | o => o)) (h : ∀ v x ρ1 H1 φ1, EnvOk X.K B H1 σ ρ1 φ1 → Ev H φ H1 φ1 → Rp X.K H1 v x → PostX X.K B W σ Q H φ (f x ρ1) → Q' v H1) : tX X.K B W mx σ H Q' := by
  refine ⟨ρ, φ, E, ?_⟩
  cases e1 : mx ρ with
  | stuck => rw [e1] at q; exact q.elim
  | ex c ρ1 => rw [e1] at q; exact q
  | val x ρ1 => rw [e1] at q; exact fun v H1 φ1 E1 w r => h v x ρ1 H1 φ1 E1 w r q
theorem px_op {op : Operator} {r : R2} {f : PyData → PyData → Option PyData} (hk : k ≠ .any) (ho : OpR X (binaryOp op) r) (hr : R2m X.K k r f) (ha : PXm X B W a mx) (hb : PXm X B W b nx) : PXm X B W (.BinOp a op b pos) (xBin f mx nx) := (pe_frz (pe_op ho ha hb)).weak fun σ H Q ⟨ρ, φ, E, q⟩ => by
  refine tX_val (f := fun x ρ1 => match nx ρ1 with
    | .val y ρ2 => xOut (f x y) ρ2
    | o => o) E q fun v x ρ1 H1 φ1 E1 w1 r1 q => tX_val (f := fun y ρ2 => xOut (f x y) ρ2) E1 (q.mono w1) fun u y ρ2 H2 φ2 E2 w2 r2 q => ?_
  obtain ⟨d, h, q⟩ := q.out
  exact hr v u H2 _ x y d (.per (r1.mono (w2.firm E1))) (.per r2) h fun v' H' s r => out_frz hk E2 w2 q s r
theorem px_cmp {op : CmpOp} {r : R2} {f : PyData → PyData → Option PyData} (ho : OpR X (compareOp op) r) (hr : R2m X.K .per r f) (ha : PXm X B W a mx) (hb : PXm X B W b nx) (hm : behindInMarks op b = false) : PXm X B W (.Compare a [op] [b] pos) (xBin f mx nx) := (pe_frz (pe_cmpR ho ha hb hm)).weak fun σ H Q ⟨ρ, φ, E, q⟩ => by
  refine tX_val (f := fun x ρ1 => match nx ρ1 with
    | .val y ρ2 => xOut (f x y) ρ2
    | o => o) E q fun v x ρ1 H1 φ1 E1 w1 r1 q => tX_val (f := fun y ρ2 => xOut (f x y) ρ2) E1 (q.mono w1) fun u y ρ2 H2 φ2 E2 w2 r2 q => ?_
  obtain ⟨d, h, q⟩ := q.out
  exact hr v u H2 _ x y d (.per (r1.mono (w2.firm E1))) (.per r2) h fun v' H' s r => out_frz (k := .per) (by intro z; cases z) E2 w2 q s r
theorem px_ix (ha : PXm X B W a mx) (hb : PXm X B W b nx) (hs : PlainIx b := by intro _ _; rfl) : PXm X B W (.Subscript a b pos) (xBin ixM mx nx) := (pe_frz (pe_ix ix_seq ha hb hs)).weak fun σ H Q ⟨ρ, φ, E, q⟩ => by
  refine tX_val (f := fun x ρ1 => match nx ρ1 with
    | .val y ρ2 => xOut (ixM x y) ρ2
    | o => o) E q fun v x ρ1 H1 φ1 E1 w1 r1 q => tX_val (f := fun y ρ2 => xOut (ixM x y) ρ2) E1 (q.mono w1) fun u y ρ2 H2 φ2 E2 w2 r2 q => ?_
  obtain ⟨d, h, q⟩ := q.out
  exact r2_ix v u H2 _ x y d (.per (r1.mono (w2.firm E1))) (.per r2) h fun v' H' s r => out_frz (k := .per) (by intro z; cases z) E2 w2 q s r
theorem px_b1 {id : String} {r : List V → Hp → VK → Prop} {f : PyData → Option PyData} (hk : k ≠ .any) (hc : CallR X (.builtin id) r) (hr : R1m X.K k r f) (hv : bootBuiltins x = some (.builtin id)) (hm : X.mg x = none) (hg : Gl X x) (ha : PXm X B W e mx)
    (hs : starEach [e] X.env = [(false, eval e X.env)] := by rfl) (hn : x ≠ "__name__" := by decide) (hdb : (x == ("__debug__" : Str)) = false := by decide) : PXm X B W (.Call (.Name x p) [e] [] pos) (xUn f mx) :=
  (pe_frz (pe_callB hc hg hm hv (pa_cons ha pa_nil hs) hn hdb hs)).weak fun σ H Q ⟨ρ, φ, E, q⟩ => tX_val (f := fun x ρ1 => xOut (f x) ρ1) E q fun v x ρ1 H1 φ1 E1 w1 r1 q => by
    obtain ⟨d, h, q⟩ := q.out
    exact hr v H1 _ x d (.per r1) h fun v' H' s r => out_frz hk E1 w1 q s r
theorem px_t1 {T : String} {r : List V → Hp → VK → Prop} {f : PyData → Option PyData} (hk : k ≠ .any) (hc : CallR X (.type T) r) (hr : R1m X.K k r f) (hv : bootBuiltins x = some (.type T)) (hm : X.mg x = none) (hg : Gl X x) (ha : PXm X B W e mx)
    (hs : starEach [e] X.env = [(false, eval e X.env)] := by rfl) (hn : x ≠ "__name__" := by decide) (hdb : (x == ("__debug__" : Str)) = false := by decide) : PXm X B W (.Call (.Name x p) [e] [] pos) (xUn f mx) :=
  (pe_frz (pe_callTy hc hg hm hv (pa_cons ha pa_nil hs) hn hdb hs)).weak fun σ H Q ⟨ρ, φ, E, q⟩ => tX_val (f := fun x ρ1 => xOut (f x) ρ1) E q fun v x ρ1 H1 φ1 E1 w1 r1 q => by
    obtain ⟨d, h, q⟩ := q.out
    exact hr v H1 _ x d (.per r1) h fun v' H' s r => out_frz hk E1 w1 q s r
def dsOf : List XA → Option (List PyData)
  | [] => some []
  | .d d :: as => (dsOf as).map (d :: ·)
  | _ => none
theorem ArgR.rps {K : PySem.W.Frag} {H : Hp} {σ : L2.St} : ∀ {vs : List V} {as : List XA} {ds : List PyData}, ArgR K H σ vs as → dsOf as = some ds → Rps K H vs ds
  | _, _, _, .nil, h => by cases h; exact .nil
  | _, _, _, .d z t, h => by obtain ⟨ds, h1, rfl⟩ := Option.map_eq_some_iff.mp h; exact .cons z (ArgR.rps t h1)
  | _, _, _, .o _ _, h => by cases h
  | _, _, _, .r _ _, h => by cases h
  | _, _, _, .b _ _, h => by cases h
def xTup (ms : MXs) : MX := fun ρ => match ms ρ with
  | .vals as ρ1 => xOut ((dsOf as).bind fun ds => if ds.length ≤ 100 then some (.tuple ds) else none) ρ1
  | .ex c ρ1 => .ex c ρ1
  | .stuck => .stuck
theorem px_tup {j : Nat} (h : PXs X B W es ms) : PXm X B W (.Tuple es j pos) (xTup ms) := (pe_tup h).weak fun σ H Q ⟨ρ, φ, E, q⟩ => by
  refine ⟨ρ, φ, E, ?_⟩
  unfold xTup at q
  cases e1 : ms ρ with
  | stuck => rw [e1] at q; exact q.elim
  | ex c ρ1 => rw [e1] at q; exact q
  | vals as ρ1 =>
    rw [e1] at q
    intro vs H1 φ1 E1 w1 r1
    obtain ⟨d, h, q⟩ := PostX.out q
    obtain ⟨ds, h1, h⟩ := Option.bind_eq_some_iff.mp h
    have r := r1.rps h1
    obtain ⟨hl, rfl⟩ := some_if h
    exact ⟨line100 (by rw [r.length]; exact hl), fun p hp => q _ _ φ1 (E1.same (same_new hp _)) (w1.trans (Ev.same (same_new hp _))) (.tup (.of upd_same) (r.mono (firm (same_new hp _))))⟩
/-! ### tests -/
inductive XTOut where
  | val (b : Bool) (ρ : Rho) | ex (c : Str) (ρ : Rho) | stuck
abbrev MXT := Rho → XTOut
def PostT (K : PySem.W.Frag) (B : Bd) (W : WX) (σ : L2.St) (Q : Bool → Hp → Prop) (H0 : Hp) (φ0 : Nat → Addr → Prop) : XTOut → Prop
  | .val b ρ => ∀ H φ, EnvOk K B H σ ρ φ → Ev H0 φ0 H φ → Q b H
  | .ex c ρ => ∀ H φ, EnvOk K B H σ ρ φ → Ev H0 φ0 H φ → W (.ref (He.ga K c)) none σ H
  | .stuck => False
theorem PostT.mono {K : PySem.W.Frag} {σ : L2.St} {Q : Bool → Hp → Prop} {H H1 : Hp} {φ φ1 : Nat → Addr → Prop} {o : XTOut} (h : PostT K B W σ Q H φ o) (v : Ev H φ H1 φ1) : PostT K B W σ Q H1 φ1 o := by
  cases o with
  | val d ρ => exact fun H' φ' E w => h H' φ' E (v.trans w)
  | ex c ρ => exact fun H' φ' E w => h H' φ' E (v.trans w)
  | stuck => exact h
def tXT (K : PySem.W.Frag) (B : Bd) (W : WX) (m : MXT) : TT := fun σ H Q => ∃ ρ φ, EnvOk K B H σ ρ φ ∧ PostT K B W σ Q H φ (m ρ)
abbrev PXTm (X : Cx) (B : Bd) (W : WX) (e : Expr) (m : MXT) : Prop := PT X e (tXT X.K B W m)
abbrev PXWm (X : Cx) (B : Bd) (W : WX) (e : Expr) (m : MXT) : Prop := PW X e (tXT X.K B W m)
def xT (m : MT) : MXT := fun ρ => match m ρ with
  | some b => .val b ρ
  | none => .stuck
theorem pxt (h : PTm X B.xo e mt) : PXTm X B W e (xT mt) := h.weak fun σ H Q ⟨ρ, φ, E, q⟩ => by
  unfold xT at q
  cases e1 : mt ρ with
  | none => rw [e1] at q; exact q.elim
  | some d => rw [e1] at q; exact ⟨ρ, d, E.rd, e1, fun H' s => q H' φ (E.same s) (Ev.same s)⟩
def xTest (m : MX) : MXT := fun ρ => match m ρ with
  | .val (.bool b) ρ1 => .val b ρ1
  | .ex c ρ1 => .ex c ρ1
  | _ => .stuck
theorem pxt_val (h : PXm X B W e mx) (he : ∀ whole, isTrue e X.env whole = (do let v ← whole; standAt e.pos; holding [v] (truthy v)) := by intro _; rfl) : PXTm X B W e (xTest mx) := (pt_val h he).weak fun σ H Q ⟨ρ, φ, E, q⟩ => by
  refine ⟨ρ, φ, E, ?_⟩
  unfold xTest at q
  cases e1 : mx ρ with
  | stuck => rw [e1] at q; exact q.elim
  | ex c ρ1 => rw [e1] at q; exact q
  | val d ρ1 =>
    rw [e1] at q
    intro v H1 φ1 E1 w1 r1
    cases d with
    | bool b => cases r1; exact ⟨b, rfl, q H1 φ1 E1 w1⟩
    | _ => exact q.elim
def xAndT (m n : MXT) : MXT := fun ρ => match m ρ with
  | .val true ρ1 => n ρ1
  | o => o
def xOrT (m n : MXT) : MXT := fun ρ => match m ρ with
  | .val false ρ1 => n ρ1
  | o => o
def xNotT (m : MXT) : MXT := fun ρ => match m ρ with
  | .val b ρ1 => .val (!b) ρ1
  | o => o
variable {tm tn : MXT}
theorem pxt_and1 (ha : PXTm X B W a tm) : PXWm X B W (.BoolOp .And [a] pos) tm := pw_and1 ha
theorem pxt_or1 (ha : PXTm X B W a tm) : PXWm X B W (.BoolOp .Or [a] pos) tm := pw_or1 ha
theorem pxt_and (ha : PXTm X B W a tm) (hb : PXWm X B W (.BoolOp .And (b :: es) pos) tn) : PXWm X B W (.BoolOp .And (a :: b :: es) pos) (xAndT tm tn) := (pw_and ha hb).weak fun σ H Q ⟨ρ, φ, E, q⟩ => by
  refine ⟨ρ, φ, E, ?_⟩
  unfold xAndT at q
  cases e1 : tm ρ with
  | stuck => rw [e1] at q; exact q.elim
  | ex c ρ1 => rw [e1] at q; exact q
  | val x ρ1 =>
    rw [e1] at q
    intro H1 φ1 E1 w1
    cases x with
    | true => exact ⟨ρ1, φ1, E1, PostT.mono q w1⟩
    | false => exact q H1 φ1 E1 w1
theorem pxt_or (ha : PXTm X B W a tm) (hb : PXWm X B W (.BoolOp .Or (b :: es) pos) tn) : PXWm X B W (.BoolOp .Or (a :: b :: es) pos) (xOrT tm tn) := (pw_or ha hb).weak fun σ H Q ⟨ρ, φ, E, q⟩ => by
  refine ⟨ρ, φ, E, ?_⟩
  unfold xOrT at q
  cases e1 : tm ρ with
  | stuck => rw [e1] at q; exact q.elim
  | ex c ρ1 => rw [e1] at q; exact q
  | val x ρ1 =>
    rw [e1] at q
    intro H1 φ1 E1 w1
    cases x with
    | true => exact q H1 φ1 E1 w1
    | false => exact ⟨ρ1, φ1, E1, PostT.mono q w1⟩
theorem pxt_not (ha : PXTm X B W a tm) : PXTm X B W (.UnaryOp .Not a pos) (xNotT tm) := (pt_not ha).weak fun σ H Q ⟨ρ, φ, E, q⟩ => by
  refine ⟨ρ, φ, E, ?_⟩
  unfold xNotT at q
  cases e1 : tm ρ with
  | stuck => rw [e1] at q; exact q.elim
  | ex c ρ1 => rw [e1] at q; exact q
  | val x ρ1 => rw [e1] at q; exact q
/-! ### statements -/
def sAsgX (i : Nat) (m : MX) : MS := fun ρ => match m ρ with
  | .val d ρ1 => if isO ρ1[i]? = true then .stuck else .nx (ρ1.set i (.d d))
  | .ex c ρ1 => .ex c ρ1
  | .stuck => .stuck
theorem sm_setX {i : Nat} {y : Str} {pos' : Pos} (hN : X.N.Nodup) (hi : X.N[i]? = some y) (hx : Loc X.env.scope y) (he : PXm X B W e mx) (hs : swapsWith e (some (.Name y pos')) pos.line X.env = pure false := by rfl)
    (hf : X.fn y = true ∨ X.env.scope.names.lookup y = some .local := by first | exact .inl rfl | exact .inr rfl | assumption) : PSm X B W rk (.Assign [.Name y pos'] e pos) (sAsgX i mx) := (ps_set hN hi hx he hs hf).weak fun D σ H ⟨ρ, φ, E, q⟩ => by
  refine ⟨ρ, φ, E, ?_⟩
  unfold sAsgX at q
  cases e1 : mx ρ with
  | stuck => rw [e1] at q; exact q.elim
  | ex c ρ1 => rw [e1] at q; exact q σ
  | val d ρ1 =>
    rw [e1] at q
    intro v H1 φ1 E1 w1 r1
    simp only at q
    by_cases ho : isO ρ1[i]? = true
    · rw [if_pos ho] at q; exact q.elim
    · rw [if_neg ho] at q
      exact q _ _ _ (E1.setD (isO_no (Bool.eq_false_iff.mpr ho)) r1) w1
def sRetX (m : MX) : MS := fun ρ => match m ρ with
  | .val d ρ1 => .rt d ρ1
  | .ex c ρ1 => .ex c ρ1
  | .stuck => .stuck
theorem sm_retX (he : PXm X B W e mx) : PSm X B W rk (.Return (some e) pos) (sRetX mx) := (ps_ret he).weak fun D σ H ⟨ρ, φ, E, q⟩ => by
  refine ⟨ρ, φ, E, ?_⟩
  unfold sRetX at q
  cases e1 : mx ρ with
  | stuck => rw [e1] at q; exact q.elim
  | ex c ρ1 => rw [e1] at q; exact q σ
  | val d ρ1 =>
    rw [e1] at q
    intro v H1 φ1 E1 w1 r1
    refine q v σ H1 φ1 E1 ?_
    cases rk with
    | per => exact r1
    | _ => exact .inl r1
def sDoX (m : MX) : MS := fun ρ => match m ρ with
  | .val _ ρ1 => .nx ρ1
  | .ex c ρ1 => .ex c ρ1
  | .stuck => .stuck
theorem sm_doX (he : PXm X B W e mx) (hs : swapsWith e none pos.line X.env = pure false := by rfl) : PSm X B W rk (.Expr e pos) (sDoX mx) := (ps_expr he hs).weak fun D σ H ⟨ρ, φ, E, q⟩ => by
  refine ⟨ρ, φ, E, ?_⟩
  unfold sDoX at q
  cases e1 : mx ρ with
  | stuck => rw [e1] at q; exact q.elim
  | ex c ρ1 => rw [e1] at q; exact q σ
  | val d ρ1 =>
    rw [e1] at q
    exact fun v H1 φ1 E1 w1 r1 => q σ H1 φ1 E1 w1
def sIfX (t : MXT) (a b : MS) : MS := fun ρ => match t ρ with
  | .val true ρ1 => a ρ1
  | .val false ρ1 => b ρ1
  | .ex c ρ1 => .ex c ρ1
  | .stuck => .stuck
theorem sm_ifX (hc : PXTm X B W c tm) (ha : PSsm X B W rk body s1) (hb : PSsm X B W rk els s2) : PSm X B W rk (.If c body els pos) (sIfX tm s1 s2) := (ps_if hc ha hb).weak fun D σ H ⟨ρ, φ, E, q⟩ => by
  refine ⟨ρ, φ, E, ?_⟩
  unfold sIfX at q
  cases e1 : tm ρ with
  | stuck => rw [e1] at q; exact q.elim
  | ex c ρ1 => rw [e1] at q; exact q σ
  | val x ρ1 =>
    rw [e1] at q
    intro H1 φ1 E1 w1
    cases x with
    | true => exact ⟨ρ1, φ1, E1, Post.mono q w1⟩
    | false => exact ⟨ρ1, φ1, E1, Post.mono q w1⟩
def sAppX (i : Nat) (m : MX) : MS := fun ρ => match ρ[i]? with
  | some (.o (.lst _)) => match m ρ with
    | .val d ρ1 => match ρ1[i]? with
      | some (.o (.lst ds)) => if ds.length < sizeLine then .nx (ρ1.set i (.o (.lst (ds ++ [d])))) else .stuck
      | _ => .stuck
    | .ex c ρ1 => .ex c ρ1
    | .stuck => .stuck
  | _ => .stuck
theorem sm_appX {i : Nat} {o : Expr} (hbm : PE X (.Call (.Attribute o "append" apos) [e] [] p) (tBM X.K "list" rAppend (tVar i) (tCons (tX X.K B W mx) tNil)))
    (hq : swapsWith (.Call (.Attribute o "append" apos) [e] [] p) none pos.line X.env = pure false := by rfl) :
    PSm X B W rk (.Expr (.Call (.Attribute o "append" apos) [e] [] p) pos) (sAppX i mx) := (ps_expr hbm hq).weak fun D σ H ⟨ρ, φ, E, q⟩ => by
  unfold sAppX at q
  split at q
  · rename_i ds0 h0
    obtain ⟨a, e0, r0⟩ := E.own h0
    generalize hfp0 : φ i = fp0 at r0
    cases r0 with
    | @lst _ xs0 _ ea0 r0 =>
      refine ⟨_, e0, .inl ⟨rfl, _, SqL.of ea0⟩, ρ, φ, E, ?_⟩
      cases e1 : mx ρ with
      | stuck => rw [e1] at q; exact q.elim
      | ex c ρ1 => rw [e1] at q; exact q σ
      | val d ρ1 =>
        rw [e1] at q
        intro v H' φ1 E1 w1 rv
        simp only at q
        split at q
        · rename_i ds h1
          by_cases h3 : ds.length < sizeLine
          · rw [if_pos h3] at q
            obtain ⟨a', e1', r⟩ := E1.own h1
            rw [e0] at e1'
            cases e1'
            generalize hfp : φ1 i = fp at r
            cases r with
            | @lst _ xs _ ea r =>
              have k : ∀ b o, ¬ φ1 i b → H' b = some o → upd H' a (.lst (xs ++ [v])) b = some o := fun b o n z => by
                have n' : b ≠ a := fun e => n (by rw [hfp]; exact e)
                rw [upd_ne n']; exact z
              have f : Firm H' (upd H' a (.lst (xs ++ [v]))) := ⟨fun b ys z => by rw [upd_ne (ne_of z ea (by intro z; cases z))]; exact z, fun b o u z => by rw [upd_ne (ne_of z ea (by intro z; cases z))]; exact z⟩
              have sb : ∀ b, b = a → φ1 i b ∨ H' b = none := fun b z => .inl (by rw [hfp]; exact z)
              refine ⟨a, xs, v, rfl, rfl, ea, by rw [r.length]; exact h3, q _ _ _ (EnvOk.turn E1 h1 e0 k (.lst upd_same ((r.append (Rps.one rv)).mono f)) sb fun b z => ?_) (w1.trans (Ev.turn (K := X.K) k sb))⟩
              rw [hfp] at z
              have z : b = a := z
              subst z
              exact ⟨_, upd_same⟩
          · rw [if_neg h3] at q; exact q.elim
        · exact q.elim
  · exact q.elim
end
end PL

namespace PL
open PySem PySem.Spec PyProof.Rows L2
/-! ### raise -/
/-- an own class of errors over ValueError -/
structure ErrC (K : PySem.W.Frag) (mg : Str → Option Value) (c : Str) : Prop where
  g : mg c = some (.ref (He.ga K c))
  q : PySem.W.excIn K (He.ga K c) He.veBase "ValueError.__new__" = true
  k : PySem.W.keepIn K (.ref (He.ga K c)) = true
  b : PySem.W.subIn K (.ref (He.ga K c)) (.type "BaseException") = some true
  t : PySem.W.typeIn K (.ref (He.ga K c)) = some (.type "type")
section
variable {X : Cx} {B : Bd} {W : WX} {rk : Kd} {st : Stmt} {rest body els : List Stmt} {e a b c : Expr} {es : List Expr} {m ma mb : ME} {mx nx : MX} {ms : MXs} {mt : MT} {s1 s2 : MS} {k k1 k2 : Kd} {pos p p2 apos : Pos} {x : Str} {n : Nat} {fm : FM}
def sExc (c : Str) : MS := fun ρ => .ex c ρ
theorem sm_raise {c t : Str} {j : Nat} (hc : X.calm = true) (tk : Takes X W) (F : ErrC X.K X.mg c) (hg : Gl X c) (hdb : (c == ("__debug__" : Str)) = false := by decide) : PSm X B W rk (.Raise (some (.Call (.Name c p) [.Constant (.str t) j p2] [] apos)) none pos) (sExc c) :=
  (ps_raise hc tk (pmk_own PySem.F.excBase_ValueError F.q F.g F.k (raises_own F.b F.t) hg hdb)).weak fun D σ H ⟨ρ, φ, E, q⟩ => q σ H φ E (Ev.refl _ _)
/-! ### try -/
/-- is an error of the class c one of C? -/
def subE (c C : Str) : Bool := c == C || C == ("HallError" : Str)
def W0 : WX := fun _ _ _ _ => False
/-- an except clause without a name -/
inductive HdM (X : Cx) (B : Bd) (rk : Kd) (es : List Str) : List ExceptHandler → List (Str × MS) → Prop
  | nil : HdM X B rk es [] []
  | cons {C : Str} {h : MS} {b₀ : Stmt} {suite : List Stmt} {np pos' : Pos} {hds : List ExceptHandler} {l : List (Str × MS)} (hc : Names X C (.ref (He.ga X.K C))) (hx : ∀ c, es.contains c = true → PySem.W.exmOne X.K (.ref (He.ga X.K c)) (.ref (He.ga X.K C)) = some (subE c C))
      (hsu : ∀ (a : Addr) (oe : Obj) (pn : List (Addr × Obj)), PSsm (X.suite a ((a, oe) :: pn)) B W0 rk (b₀ :: suite) h) (r : HdM X B rk es hds l) : HdM X B rk es (.ExceptHandler (some (.Name C np)) none (b₀ :: suite) pos' :: hds) ((C, h) :: l)
def hdL (K : PySem.W.Frag) (B : Bd) (rk : Kd) (l : List (Str × MS)) : List (Value × (Addr → Value → Option Addr → TS)) := l.map fun q => (.ref (He.ga K q.1), fun _ _ _ => tS K B W0 rk q.2)
theorem HdM.ok {es : List Str} {hds : List ExceptHandler} {l : List (Str × MS)} (h : HdM X B rk es hds l) : HdsOk X hds (hdL X.K B rk l) := by
  induction h with
  | nil => exact .nil
  | cons hc _ hsu _ ih => exact .cons hc (fun a oe cls d pn _ _ => hsu a oe pn) ih
theorem Post.w0 {K : PySem.W.Frag} {D : Ends} {H : Hp} {φ : Nat → Addr → Prop} {o : Out} (h : Post K B W rk D H φ o) (n : ∀ c ρ, o ≠ .ex c ρ) : Post K B W0 rk D H φ o := by
  cases o with
  | ex c ρ => exact absurd rfl (n c ρ)
  | _ => exact h
/-- what a suite raises is not told -/
def noEx : Out → Out
  | .ex _ _ => .stuck
  | o => o
def sHds (es : List Str) : List (Str × MS) → Str → MS
  | [], c => fun ρ => .ex c ρ
  | (C, h) :: hs, c => fun ρ => if es.contains c = true then (if subE c C = true then noEx (h ρ) else sHds es hs c ρ) else .stuck
theorem HdM.reads {es : List Str} {hds : List ExceptHandler} {l : List (Str × MS)} (h : HdM X B rk es hds l) {D : Ends} {c : Str} {ρ : Rho} {H0 : Hp} {φ0 : Nat → Addr → Prop} (q : Post X.K B W rk D H0 φ0 (sHds es l c ρ)) {σ : L2.St} {H : Hp} {φ : Nat → Addr → Prop} (E : EnvOk X.K B H σ ρ φ) (v : Ev H0 φ0 H φ) :
    wMany X.K W D (hdL X.K B rk l) (.ref (He.ga X.K c)) none σ H := by
  induction h with
  | nil => exact q σ H φ E v
  | @cons C h b₀ suite np pos' hds l hc hx hsu r ih =>
    unfold sHds at q
    by_cases hk : es.contains c = true
    · rw [if_pos hk] at q
      refine ⟨subE c C, hx c hk, fun hb a na => ?_, fun hb => ih ?_⟩
      · rw [if_pos hb] at q
        refine ⟨ρ, φ, E, ?_⟩
        show Post X.K B W0 rk D H φ (h ρ)
        generalize h ρ = o at q ⊢
        cases o with
        | ex c ρ1 => exact q.elim
        | stuck => exact q.elim
        | nx ρ1 => exact fun σ' H' φ' E' v' => q σ' H' φ' E' (v.trans v')
        | bk ρ1 => exact fun σ' H' φ' E' v' => q σ' H' φ' E' (v.trans v')
        | ct ρ1 => exact fun σ' H' φ' E' v' => q σ' H' φ' E' (v.trans v')
        | rt d ρ1 => exact q
      · rw [if_neg (by rw [hb]; exact Bool.false_ne_true)] at q
        exact q
    · rw [if_neg hk] at q
      exact q.elim
def sTry (es : List Str) (body : MS) (hs : List (Str × MS)) : MS := fun ρ => match body ρ with
  | .ex c ρ1 => sHds es hs c ρ1
  | o => o
theorem sm_try {es : List Str} {h₀ : ExceptHandler} {hds : List ExceptHandler} {l : List (Str × MS)} (hs : X.stack = X.env :: X.outer) (hf : X.env.frame = some X.env.locals) (tk : Takes X W)
    (hb : ∀ (W : WX) (pn : List (Addr × Obj)) (xe : Value → Shared → Prop), Takes (X.tr pn xe) W → PassesOwn (model X.prog X.w) X.A X.env xe → PSsm (X.tr pn xe) B W rk body s1) (hh : HdM X B rk es (h₀ :: hds) l) :
    PSm X B W rk (.Try body (h₀ :: hds) [] [] pos) (sTry es s1 l) := (ps_try_many (tb := fun W => tS X.K B W rk s1) hs hf tk hb hh.ok).weak fun D σ H ⟨ρ, φ, E, q⟩ => by
  refine ⟨ρ, φ, E, ?_⟩
  unfold sTry at q
  cases e1 : s1 ρ with
  | ex c ρ1 => rw [e1] at q; exact fun σ' H' φ' E' v' => hh.reads q E' v'
  | stuck => rw [e1] at q; exact q.elim
  | nx ρ1 => rw [e1] at q; exact q
  | bk ρ1 => rw [e1] at q; exact q
  | ct ρ1 => rw [e1] at q; exact q
  | rt d ρ1 => rw [e1] at q; exact q
/-! ### try .. except C as n -/
def wipeO (i : Nat) : Out → Out
  | .nx ρ => if isO ρ[i]? = true then .stuck else .nx (ρ.set i .nil)
  | .bk ρ => if isO ρ[i]? = true then .stuck else .bk (ρ.set i .nil)
  | .ct ρ => if isO ρ[i]? = true then .stuck else .ct (ρ.set i .nil)
  | .rt d ρ => if isO ρ[i]? = true then .stuck else .rt d (ρ.set i .nil)
  | _ => .stuck
def sTryAs (es : List Str) (i : Nat) (C : Str) (body h : MS) : MS := fun ρ => match body ρ with
  | .ex c ρ1 => if es.contains c = true then (if subE c C = true then (if isO ρ1[i]? = true then .stuck else wipeO i (h (ρ1.set i (.x c)))) else .ex c ρ1) else .stuck
  | o => o
def Bd.cau (B : Bd) (i : Nat) (p : Addr × Obj) : Bd := { B with xo := fun j => if j = i then some p else B.xo j }
theorem EnvOk.setNil {K : PySem.W.Frag} {H : Hp} {σ : L2.St} {ρ : Rho} {φ : Nat → Addr → Prop} {i : Nat} {q : Addr × Obj} (h : EnvOk K (B.cau i q) H σ ρ φ) (hn : ∀ ob, ρ[i]? ≠ some (.o ob)) (v : Option V) : EnvOk K B H (σ.set i v) (ρ.set i .nil) φ := by
  refine ⟨by simp [h.len], fun j s q => ?_, fun j q => h.out j (by rw [List.getElem?_eq_none_iff] at q ⊢; simpa using q), h.dis, h.frm, h.frz, h.sub, fun j x q => ?_, fun j c q => ?_⟩
  · by_cases e : i = j
    · subst e
      have hl : i < ρ.length := by
        have := (List.getElem?_eq_some_iff.mp q).1
        simpa using this
      rw [List.getElem?_set_self hl] at q
      cases q
      exact .nil (h.notOwn hn)
    · rw [List.getElem?_set_ne e] at q
      rw [List.getElem?_set_ne e]
      exact h.sl j s q
  · have e : i ≠ j := fun e => by subst e; have := h.notIo hn; rw [show B.io i = (B.cau i _).io i from rfl, this] at q; cases q
    rw [List.getElem?_set_ne e, List.getElem?_set_ne e]
    exact h.io j x q
  · by_cases e : i = j
    · subst e
      by_cases hl : i < ρ.length
      · rw [List.getElem?_set_self hl] at q; cases q
      · rw [List.getElem?_eq_none (by simpa using hl)] at q; cases q
    · rw [List.getElem?_set_ne e] at q ⊢
      obtain ⟨a, oe, z1, z2⟩ := h.xo j c q
      refine ⟨a, oe, ?_, z2⟩
      have z1 : (if j = i then some _ else B.xo j) = some (a, oe) := z1
      rwa [if_neg (Ne.symm e)] at z1
theorem EnvOk.setX {K : PySem.W.Frag} {H : Hp} {σ : L2.St} {ρ : Rho} {φ : Nat → Addr → Prop} {i : Nat} {c : Str} {a : Addr} {oe : Obj} (h : EnvOk K B H σ ρ φ) (hn : ∀ ob, ρ[i]? ≠ some (.o ob)) (hz : Zc (.ref (He.ga K c)) none oe) (hf : ∃ vs, oe.data = .fields vs) :
    EnvOk K (B.cau i (a, oe)) H (σ.set i (some (.ref a))) (ρ.set i (.x c)) φ := by
  refine ⟨by simp [h.len], fun j s q => ?_, fun j q => h.out j (by rw [List.getElem?_eq_none_iff] at q ⊢; simpa using q), h.dis, h.frm, h.frz, h.sub, fun j x q => ?_, fun j c' q => ?_⟩
  · by_cases e : i = j
    · subst e
      have hl : i < ρ.length := by
        have := (List.getElem?_eq_some_iff.mp q).1
        simpa using this
      rw [List.getElem?_set_self hl] at q
      cases q
      exact .x (h.notOwn hn)
    · rw [List.getElem?_set_ne e] at q
      rw [List.getElem?_set_ne e]
      exact h.sl j s q
  · have e : i ≠ j := fun e => by subst e; have := h.notIo hn; rw [show (B.cau i (a, oe)).io i = B.io i from rfl, this] at q; cases q
    rw [List.getElem?_set_ne e, List.getElem?_set_ne e]
    exact h.io j x q
  · by_cases e : i = j
    · subst e
      by_cases hl : i < ρ.length
      · rw [List.getElem?_set_self hl] at q
        cases q
        exact ⟨a, oe, if_pos rfl, List.getElem?_set_self (by rw [h.len]; exact hl), hz, hf⟩
      · rw [List.getElem?_eq_none (by simpa using hl)] at q; cases q
    · rw [List.getElem?_set_ne e] at q ⊢
      obtain ⟨a', oe', z1, z2⟩ := h.xo j c' q
      exact ⟨a', oe', by show (if j = i then _ else _) = _; rw [if_neg (Ne.symm e)]; exact z1, z2⟩
theorem sm_tryAs {es : List Str} {i : Nat} {nm C : Str} {b₀ : Stmt} {suite : List Stmt} {np pos' : Pos} (hs : X.stack = X.env :: X.outer) (hf : X.env.frame = some X.env.locals) (hN : X.N.Nodup) (hi : X.N[i]? = some nm) (hln : X.env.kindOf nm = some .local)
    (hc : Names X C (.ref (He.ga X.K C))) (hx : ∀ c, es.contains c = true → PySem.W.exmOne X.K (.ref (He.ga X.K c)) (.ref (He.ga X.K C)) = some (subE c C)) (tk : Takes X W)
    (hb : ∀ (W : WX) (pn : List (Addr × Obj)) (xe : Value → Shared → Prop), Takes (X.tr pn xe) W → PassesOwn (model X.prog X.w) X.A X.env xe → PSsm (X.tr pn xe) B W rk body s1)
    (hsu : ∀ (a : Addr) (oe : Obj) (pn : List (Addr × Obj)), PSsm (X.suite a ((a, oe) :: pn)) (B.cau i (a, oe)) W0 rk (b₀ :: suite) s2) :
    PSm X B W rk (.Try body [.ExceptHandler (some (.Name C np)) (some nm) (b₀ :: suite) pos'] [] [] pos) (sTryAs es i C s1 s2) :=
  (ps_try_as (tb := fun W => tS X.K B W rk s1) (ts := fun a cls d D σ H => ∀ oe, Zc cls d oe → (∃ vs, oe.data = .fields vs) → tS X.K (B.cau i (a, oe)) W0 rk s2 D σ H) hs hf hN hi hln hc tk hb (fun a oe cls d pn hz hfl => (hsu a oe pn).weak fun D σ H h => h oe hz hfl)).weak fun D σ H ⟨ρ, φ, E, q⟩ => by
    refine ⟨ρ, φ, E, ?_⟩
    unfold sTryAs at q
    cases e1 : s1 ρ with
    | stuck => rw [e1] at q; exact q.elim
    | nx ρ1 => rw [e1] at q; exact q
    | bk ρ1 => rw [e1] at q; exact q
    | ct ρ1 => rw [e1] at q; exact q
    | rt d ρ1 => rw [e1] at q; exact q
    | ex c ρ1 =>
      rw [e1] at q
      intro σ' H' φ' E' v'
      have q : Post X.K B W rk D H φ (if es.contains c = true then (if subE c C = true then (if isO ρ1[i]? = true then .stuck else wipeO i (s2 (ρ1.set i (.x c)))) else .ex c ρ1) else .stuck) := q
      by_cases hk : es.contains c = true
      · rw [if_pos hk] at q
        refine ⟨subE c C, hx c hk, fun hb a na oe hz hfl => ?_, fun hb => ?_⟩
        · rw [if_pos hb] at q
          by_cases ho : isO ρ1[i]? = true
          · rw [if_pos ho] at q; exact q.elim
          · rw [if_neg ho] at q
            refine ⟨_, φ', E'.setX (isO_no (Bool.eq_false_iff.mpr ho)) hz hfl, ?_⟩
            generalize s2 (ρ1.set i (.x c)) = o at q
            have cut : ∀ {ρ2 : Rho} {f : Rho → Out}, Post X.K B W rk D H φ (if isO ρ2[i]? = true then .stuck else f (ρ2.set i .nil)) → (∀ ob, ρ2[i]? ≠ some (.o ob)) ∧ Post X.K B W rk D H φ (f (ρ2.set i .nil)) := fun {ρ2 f} q => by
              by_cases h2 : isO ρ2[i]? = true
              · rw [if_pos h2] at q; exact q.elim
              · rw [if_neg h2] at q; exact ⟨isO_no (Bool.eq_false_iff.mpr h2), q⟩
            have self : ∀ {σ2 : L2.St} {ρ2 : Rho} {H2 : Hp} {φ2 : Nat → Addr → Prop}, EnvOk X.K (B.cau i (a, oe)) H2 σ2 ρ2 φ2 → (∀ ob, ρ2[i]? ≠ some (.o ob)) → ∃ v, EnvOk X.K B H2 σ2 (ρ2.set i .nil) φ2 := fun {σ2 ρ2 H2 φ2} E2 hn => by
              refine ⟨(), ?_⟩
              have z := E2.setNil hn (σ2[i]?.getD none)
              have e : σ2.set i (σ2[i]?.getD none) = σ2 := by
                apply List.ext_getElem?
                intro j
                by_cases ej : i = j
                · subst ej
                  by_cases hl : i < σ2.length
                  · rw [List.getElem?_set_self hl, List.getElem?_eq_getElem hl]; rfl
                  · rw [List.getElem?_eq_none (by simpa using hl), List.getElem?_eq_none (by omega)]
                · rw [List.getElem?_set_ne ej]
              rwa [e] at z
            cases o with
            | stuck => exact q.elim
            | ex c ρ2 => exact q.elim
            | nx ρ2 => obtain ⟨hn, q⟩ := cut (f := .nx) q; exact fun σ2 H2 φ2 E2 v2 => q _ H2 φ2 (E2.setNil hn none) (v'.trans v2)
            | bk ρ2 => obtain ⟨hn, q⟩ := cut (f := .bk) q; exact fun σ2 H2 φ2 E2 v2 => q _ H2 φ2 (E2.setNil hn none) (v'.trans v2)
            | ct ρ2 => obtain ⟨hn, q⟩ := cut (f := .ct) q; exact fun σ2 H2 φ2 E2 v2 => q _ H2 φ2 (E2.setNil hn none) (v'.trans v2)
            | rt d ρ2 =>
              obtain ⟨hn, q⟩ := cut (f := .rt d) q
              intro v σ2 H2 φ2 E2 r2
              obtain ⟨_, z⟩ := self E2 hn
              exact q v σ2 H2 φ2 z r2
        · rw [if_neg (by rw [hb]; exact Bool.false_ne_true)] at q
          exact q σ' H' φ' E' v'
      · rw [if_neg hk] at q
        exact q.elim
end
end PL

namespace PL
open PySem PySem.Spec PyProof.Rows L2
/-! ### isinstance(e, C) of what is caught -/
def excCB (K : PySem.W.Frag) (D : Addr) : Bool := He.eqO (PySem.W.findIn K (.ref D) "__getattribute__") (some (some (.builtin "BaseException.__getattribute__"))) && (He.eqO (PySem.W.findIn K (.ref D) "__getattr__") (some none) && (decide (PySem.W.subIn K (.ref D) (.type "BaseException") = some true) &&
  (PySem.W.hasDictIn K D && (He.eqO (PySem.W.findIn K (.ref D) "__class__") (some (some (.builtin "object.__class__"))) && (He.eqO (PySem.W.specialIn K (.builtin "object.__class__") "__get__") (some (some (.builtin "getset_descriptor.__get__"))) &&
  (decide (PySem.W.takesIn K (.builtin "object.__class__") = some true) && decide (PySem.W.mroIn K D (.type "object") = some true)))))))
theorem excCB_ok {K : PySem.W.Frag} {D : Addr} (h : excCB K D = true) : ExcC K D := by
  obtain ⟨h1, h⟩ := He.ba h
  obtain ⟨h2, h⟩ := He.ba h
  obtain ⟨h3, h⟩ := He.ba h
  obtain ⟨h4, h⟩ := He.ba h
  obtain ⟨h5, h⟩ := He.ba h
  obtain ⟨h6, h⟩ := He.ba h
  obtain ⟨h7, h8⟩ := He.ba h
  exact ⟨He.eqO_ok h1, He.eqO_ok h2, of_decide_eq_true h3, h4, He.eqO_ok h5, He.eqO_ok h6, of_decide_eq_true h7, of_decide_eq_true h8⟩
/-- the errors' classes, and what they are kinds of -/
def errB (es Cs : List Str) (K : PySem.W.Frag) : Bool := es.all fun c => excCB K (He.ga K c) && (decide (PySem.W.kitOne K (.ref (He.ga K c)) (.type "ValueError") = some true) && Cs.all fun C => decide (PySem.W.kitOne K (.ref (He.ga K c)) (.ref (He.ga K C)) = some (subE c C)) &&
  decide (PySem.W.exmOne K (.ref (He.ga K c)) (.ref (He.ga K C)) = some (subE c C)))
structure ErrK (K : PySem.W.Frag) (es Cs : List Str) : Prop where
  h : errB es Cs K = true
section
variable {K : PySem.W.Frag} {es Cs : List Str} {c C : Str}
theorem ErrK.exc (F : ErrK K es Cs) (hc : es.contains c = true) : ExcC K (He.ga K c) := excCB_ok (He.ba (List.all_eq_true.mp F.h c (List.contains_iff_mem.mp hc))).1
theorem ErrK.val (F : ErrK K es Cs) (hc : es.contains c = true) : PySem.W.kitOne K (.ref (He.ga K c)) (.type "ValueError") = some true := of_decide_eq_true (He.ba (He.ba (List.all_eq_true.mp F.h c (List.contains_iff_mem.mp hc))).2).1
theorem ErrK.kit (F : ErrK K es Cs) (hc : es.contains c = true) (hC : Cs.contains C = true) : PySem.W.kitOne K (.ref (He.ga K c)) (.ref (He.ga K C)) = some (subE c C) :=
  of_decide_eq_true (He.ba (List.all_eq_true.mp (He.ba (He.ba (List.all_eq_true.mp F.h c (List.contains_iff_mem.mp hc))).2).2 C (List.contains_iff_mem.mp hC))).1
theorem ErrK.exm (F : ErrK K es Cs) (hC : Cs.contains C = true) (c : Str) (hc : es.contains c = true) : PySem.W.exmOne K (.ref (He.ga K c)) (.ref (He.ga K C)) = some (subE c C) :=
  of_decide_eq_true (He.ba (List.all_eq_true.mp (He.ba (He.ba (List.all_eq_true.mp F.h c (List.contains_iff_mem.mp hc))).2).2 C (List.contains_iff_mem.mp hC))).2
end
def mIsE (es : List Str) (i : Nat) (f : Str → Bool) : ME := fun ρ => match ρ[i]? with
  | some (.x c) => if es.contains c = true then some (.bool (f c)) else none
  | _ => none
section
variable {X : Cx} {B : Bd} {a : Addr} {oe : Obj} {pn : List (Addr × Obj)} {i : Nat} {es Cs : List Str} {nm C : Str} {p p1 p2 pos : Pos}
def rIsX (K : PySem.W.Frag) (a : Addr) (oe : Obj) : List V → Hp → VK → Prop := fun xs H Q => ∃ D, ExcC K D ∧ Zc (.ref D) none oe ∧ (∃ vs, oe.data = .fields vs) ∧ rIsE K D a xs H Q
theorem call_isX : CallR (X.suite a ((a, oe) :: pn)) (.builtin "isinstance") (rIsX X.K a oe) := by
  intro pins s σ H xs us Q I r h
  obtain ⟨D, hC, hz, hf, h⟩ := h
  exact call_isE hC hz hf pins s σ H xs us Q I r h
theorem pm_isX {v : V} {cv : Value} {f : Str → Bool} (hm : X.mg "isinstance" = none) (hg : Gl X "isinstance") (hv : ∀ u, RelV v u → u = cv) (hN : X.N[i]? = some nm) (hvis : Vis X.env.scope nm) (hd : (nm == ("__debug__" : Str)) = false) (hcd : (nm == ("__classdict__" : Str)) = false)
    (hc : PE (X.suite a ((a, oe) :: pn)) (.Name C p2) (tC v)) (hk : ∀ c, es.contains c = true → ExcC X.K (He.ga X.K c) ∧ PySem.W.kitOne X.K (.ref (He.ga X.K c)) cv = some (f c))
    (hs : starEach [.Name nm p1, .Name C p2] X.env = (false, eval (.Name nm p1) X.env) :: starEach [.Name C p2] X.env := by rfl) (hs2 : starEach [.Name C p2] X.env = [(false, eval (.Name C p2) X.env)] := by rfl) :
    PEm (X.suite a ((a, oe) :: pn)) (B.cau i (a, oe)).xo .per (.Call (.Name "isinstance" p) [.Name nm p1, .Name C p2] [] pos) (mIsE es i f) :=
  (pe_callB call_isX hg hm boot_isinstance (pa_cons (pe_var (X := X.suite a ((a, oe) :: pn)) (i := i) hN hvis hd hcd) (pa_cons hc pa_nil hs2) hs) (by decide) (by decide) hs (by rw [hs2]; rfl)).weak fun σ H Q ⟨ρ, d, R, q, z⟩ => by
    unfold mIsE at q
    split at q
    · rename_i c e1
      obtain ⟨hes, rfl⟩ := some_if q
      obtain ⟨a', oe', z1, z2, z3, z4⟩ := R.xo i c e1
      have z1 : (if i = i then some (a, oe) else B.xo i) = some (a', oe') := z1
      rw [if_pos rfl] at z1
      cases z1
      obtain ⟨k1, k2⟩ := hk c hes
      exact ⟨_, z2, _, k1, z3, z4, v, cv, f c, rfl, hv, k2, z _ _ (Same.refl H) (.bl _)⟩
    · cases q
/-- C an own class of errors -/
theorem pm_isE (F : ErrK X.K es Cs) (hC : Cs.contains C = true) (hm : X.mg "isinstance" = none) (hg : Gl X "isinstance") (hN : X.N[i]? = some nm) (hmC : X.mg C = some (.ref (He.ga X.K C))) (hgC : Gl X C) (hvis : Vis X.env.scope nm := by first | exact Or.inl rfl | exact Or.inr (Or.inl rfl) | exact Or.inr (Or.inr rfl))
    (hd : (nm == ("__debug__" : Str)) = false := by decide) (hcd : (nm == ("__classdict__" : Str)) = false := by decide) (hdC : (C == ("__debug__" : Str)) = false := by decide)
    (hs : starEach [.Name nm p1, .Name C p2] X.env = (false, eval (.Name nm p1) X.env) :: starEach [.Name C p2] X.env := by rfl) (hs2 : starEach [.Name C p2] X.env = [(false, eval (.Name C p2) X.env)] := by rfl) :
    PEm (X.suite a ((a, oe) :: pn)) (B.cau i (a, oe)).xo .per (.Call (.Name "isinstance" p) [.Name nm p1, .Name C p2] [] pos) (mIsE es i (subE · C)) :=
  pm_isX (v := .ref (He.ga X.K C)) hm hg (fun u h => h) hN hvis hd hcd (pe_glob (X := X.suite a ((a, oe) :: pn)) (v := .ref (He.ga X.K C)) hgC hmC rfl hdC) (fun c hc => ⟨F.exc hc, F.kit hc hC⟩) hs hs2
theorem pm_isV (F : ErrK X.K es Cs) (hm : X.mg "isinstance" = none) (hg : Gl X "isinstance") (hN : X.N[i]? = some nm) (hmC : X.mg "ValueError" = none) (hgC : Gl X "ValueError") (hvis : Vis X.env.scope nm := by first | exact Or.inl rfl | exact Or.inr (Or.inl rfl) | exact Or.inr (Or.inr rfl))
    (hd : (nm == ("__debug__" : Str)) = false := by decide) (hcd : (nm == ("__classdict__" : Str)) = false := by decide) (hboot : bootBuiltins "ValueError" = some (.type "ValueError") := by decide +kernel)
    (hs : starEach [.Name nm p1, .Name "ValueError" p2] X.env = (false, eval (.Name nm p1) X.env) :: starEach [.Name "ValueError" p2] X.env := by rfl) (hs2 : starEach [.Name "ValueError" p2] X.env = [(false, eval (.Name "ValueError" p2) X.env)] := by rfl) :
    PEm (X.suite a ((a, oe) :: pn)) (B.cau i (a, oe)).xo .per (.Call (.Name "isinstance" p) [.Name nm p1, .Name "ValueError" p2] [] pos) (mIsE es i fun _ => true) :=
  pm_isX (v := .ty "ValueError") hm hg (fun u h => h) hN hvis hd hcd (pe_bltn (X := X.suite a ((a, oe) :: pn)) (v := .ty "ValueError") hgC hmC hboot rfl (by decide) (by decide)) (fun c hc => ⟨F.exc hc, F.val hc⟩) hs hs2
end
/-! ### a head that looks at the errors' classes too -/
def obsX (ex : PySem.W.Frag → Bool) (fa : List He.Fa) (fn : List He.DefD) (K : PySem.W.Frag) : He.AlD := (ex K && (He.obsD fa fn K).1, (He.obsD fa fn K).2)
def SaysX (ex : PySem.W.Frag → Bool) (fa : List He.Fa) (fn : List He.DefD) (K : PySem.W.Frag) : Prop := obsX ex fa fn K = He.valD fn
def obsXG (n : Nat) (ex : PySem.W.Frag → Bool) (fa : List He.Fa) (fn : List He.DefD) (g : Addr → Option Obj) : He.AlD := obsX ex fa fn (He.frG g (He.asD g n))
def hookX (n : Nat) (ex : PySem.W.Frag → Bool) (fa : List He.Fa) (fn : List He.DefD) : PySem.W.Hook :=
  { α := He.AlD, obs := fun s => obsXG n ex fa fn s.heap.get?, val := fun _ => He.valD fn, says := fun _ h => ∃ K : PySem.W.Frag, K.In h ∧ SaysX ex fa fn K, of := fun _ _ e => ⟨_, He.frG_in, e⟩, keeps := fun _ _ _ ⟨K, hK, c⟩ k => ⟨K, PySem.W.Frag.In.keeps hK k, c⟩ }
theorem obsXG_eq {n : Nat} {ex : PySem.W.Frag → Bool} {fa : List He.Fa} {fn : List He.DefD} {g : Addr → Option Obj} {s : Shared} (h : ∀ a, g a = s.heap.get? a) : obsXG n ex fa fn g = (hookX n ex fa fn).obs s := by
  rw [show g = s.heap.get? from funext h] <;> rfl
theorem SaysX.d {ex : PySem.W.Frag → Bool} {fa : List He.Fa} {fn : List He.DefD} {K : PySem.W.Frag} (h : SaysX ex fa fn K) : ex K = true ∧ He.SaysD fa fn K := by
  have h1 : (ex K && (He.obsD fa fn K).1) = true := congrArg (fun z : He.AlD => z.1) h
  obtain ⟨h2, h3⟩ := He.ba h1
  have h4 : (obsX ex fa fn K).2 = (He.valD fn).2 := congrArg (fun z : He.AlD => z.2) (show obsX ex fa fn K = He.valD fn from h)
  exact ⟨h2, Prod.ext h3 h4⟩
end PL

namespace PL
open PySem PySem.Spec PyProof.Rows L2
theorem cx_no {P : Program} {w : World} {H : Hp} {s : Shared} {e : Value} {s' : Shared} (h : L2.CX P w [] H s (fun _ _ _ => False) e s') : False := by
  obtain ⟨_, _, _, _, _, _, _, _, _, _, _, _, z⟩ := h
  exact z
/-- a law by its mirror -/
theorem walk_law {l : PySem.W.OpenLaw} {n k : Nat} {q : Program} {loose : List Str} {XP : (Str → Option Value) → Heap → Prop} {YP : World → Heap → Prop} {d : DefRec} {x : Str} {fm : FM}
    (hn : l.most = some n) (hn2 : n ≤ sizeLine) (hdf : d.params.defaults = []) (hr : Room k callerA)
    (F : ∀ (w : World) (mg : Str → Option Value) (fa : Addr) (h : Heap), YP w h → h.Ns mainGlobals mg → mg d.name = some (.ref fa) →
      ∃ (K : PySem.W.Frag) (fd : FuncData), K.In h ∧ (∀ (s : Shared) (u : Value), BindsTo s fd ⟨[u], []⟩ [(x, u)]) ∧
        ∀ base : Heap, K.In base → base.Ns mainGlobals mg → FnOk l.prog w K mg base (L2.CX l.prog w) k fa fd [x] (spM K .per fm))
    (law : ∀ ns : List Int, ns.length ≤ n → ∃ obs, fm [.b (ns.map .int)] = .ret (.bool true) obs) :
    PySem.W.WalkO q loose XP YP l.row.toRowW d [] (fun f vs => PySem.call f vs) := by
  refine Att.attach_call hn hdf fun w s₀ s₁ mg mb fa o pm cd doc a vs ns G Y ho hd hcd hmg hobj hints hlen hg => ?_
  obtain ⟨K, fd, KX, hb, hF⟩ := F w mg fa _ Y G.T.g hmg
  refine law_call KX G.T.g G.T.b G.T.builtins G.T.nolimit hg hobj hints (Nat.le_trans hlen hn2) hr hF hb (fun H hO hS => ?_) fun H e s' => cx_no
  obtain ⟨obs, e⟩ := law ns hlen
  refine ⟨[.b (ns.map .int)], fun _ _ => False, ?_, ?_⟩
  · have r : Rps K H (ns.map V.int) (ns.map PyData.int) := by
      induction ns with
      | nil => exact .nil
      | cons n ns ih => exact .cons (.int n) (by clear ih hF hb law e hobj hints hlen hS; induction ns with
        | nil => exact .nil
        | cons n ns ih => exact .cons (.int n) ih)
    have ra : RAs K H [false] [.ref a] [.list (ns.map PyData.int)] := .any (.seq hS r) .nil
    exact ra.argsOk
  · rw [e]
    intro v H' φ' O r
    cases r
    rfl
end PL

namespace PL
open PySem PySem.Spec PyProof.Rows L2
def N_gone_through : List Str := ["form", "met"]
def gone_through_b (r_gone_through : FM) : MS :=
  (sIf (mTest (mBin eqM (mBin ixM (mV 0) (mC (.int 0))) (mC (.str "if"))))
  (sSeq (sDoX (xCall r_gone_through (xCons (xE (mBin ixM (mV 0) (mC (.int 1)))) (xSlot (.o 1) xNil))))
  (sDoX (xCall r_gone_through (xCons (xE (mBin ixM (mV 0) (mC (.int 2)))) (xSlot (.o 1) xNil)))))
  (sIf (mAndT (mTest (mBin neM (mBin ixM (mV 0) (mC (.int 0))) (mC (.str "no")))) (mTest (mBin (inM true) (mV 0) (mVA 1))))
  (sApp 1 (mV 0))
  sSkip))
def gone_through_m : Nat → FM
  | 0 => fun _ => .stuck
  | n + 1 => runF 2 2 (gone_through_b (gone_through_m n))
def N_atoms : List Str := ["form", "met"]
def atoms_b (r_gone_through : FM) : MS :=
  (sSeq (sNew 1 (mLst mNil))
  (sSeq (sDoX (xCall r_gone_through (xCons (xE (mV 0)) (xSlot (.o 1) xNil))))
  (sFz 1 (sRet (mV 1)))))
def atoms_m : FM := runF 2 1 (atoms_b (gone_through_m 70))
def N_so_under : List Str := ["form", "met", "row"]
def so_under_b (r_so_under : FM) : MS :=
  (sSeq (sIf (mTest (mBin eqM (mBin ixM (mV 0) (mC (.int 0))) (mC (.str "no"))))
  (sRet (mC (.bool false)))
  sSkip)
  (sSeq (sIf (mTest (mBin eqM (mBin ixM (mV 0) (mC (.int 0))) (mC (.str "if"))))
  (sRet (mBl (mOr (mNot (mCall [true, true, true] r_so_under (mCons (mBin ixM (mV 0) (mC (.int 1))) (mCons (mV 1) (mCons (mV 2) mNil))))) (mCall [true, true, true] r_so_under (mCons (mBin ixM (mV 0) (mC (.int 2))) (mCons (mV 1) (mCons (mV 2) mNil)))))))
  sSkip)
  (sRet (mBin ixM (mV 2) (mBin indexM (mV 1) (mV 0))))))
def so_under_m : Nat → FM
  | 0 => fun _ => .stuck
  | n + 1 => runF 3 3 (so_under_b (so_under_m n))
def N_rows_of : List Str := ["many", "rows", "k", "longer", "row"]
def rows_of_b  : MS :=
  (sSeq (sAsg 1 (mLst (mCons (mLst mNil) mNil)))
  (sSeq (sFor 2 (mR1 (mV 0))
  (sSeq (sFz 3 (sNew 3 (mLst mNil)))
  (sSeq (sFor 4 (mIt (mV 1))
  (sSeq (sApp 3 (mBin addM (mV 4) (mLst (mCons (mC (.bool false)) mNil))))
  (sApp 3 (mBin addM (mV 4) (mLst (mCons (mC (.bool true)) mNil))))))
  (sFz 3 (sAsg 1 (mV 3))))))
  (sRet (mV 1))))
def rows_of_m : FM := runF 5 1 (rows_of_b )
def N_refuter : List Str := ["form", "met", "row"]
def refuter_b (r_atoms : FM) (r_rows_of : FM) (r_so_under : FM) : MS :=
  (sSeq (sAsg 1 (mCall [true] r_atoms (mCons (mV 0) mNil)))
  (sSeq (sIf (mTest (mBin gtM (mUn lenM (mV 1)) (mC (.int 8))))
  (sExc "TooLarge")
  sSkip)
  (sSeq (sFor 2 (mIt (mCall [true] r_rows_of (mCons (mUn lenM (mV 1)) mNil)))
  (sIf (mNotT (mTest (mCall [true, true, true] r_so_under (mCons (mV 0) (mCons (mV 1) (mCons (mV 2) mNil))))))
  (sRet (mV 2))
  sSkip))
  (sRet (mC .none)))))
def refuter_m : FM := runF 3 1 (refuter_b atoms_m rows_of_m (so_under_m 70))
def N_cell_at_l : List Str := ["script", "k"]
def cell_at_l_b  : MS :=
  (sSeq (sIf (mTest (mBin ltM (mV 1) (mUn lenM (mVA 0))))
  (sRet (mBin ixM (mVA 0) (mV 1)))
  sSkip)
  (sRet (mC (.int 0))))
def cell_at_l_m : FM := runF 2 2 (cell_at_l_b )
def N_next_l : List Str := ["seed"]
def next_l_b  : MS :=
  (sRet (mBin modM (mBin addM (mBin mulM (mV 0) (mC (.int 48271))) (mC (.int 12345))) (mC (.int 2147483647))))
def next_l_m : FM := runF 1 1 (next_l_b )
def N_part_l : List Str := ["seed", "k"]
def part_l_b  : MS :=
  (sRet (mBin divM (mBin modM (mBin addM (mBin addM (mBin mulM (mV 0) (mBin ixM (mLst (mCons (mC (.int 48271)) (mCons (mC (.int 69621)) (mCons (mC (.int 16807)) (mCons (mC (.int 40692)) (mCons (mC (.int 39373)) mNil)))))) (mBin modM (mV 1) (mC (.int 5))))) (mC (.int 12345))) (mV 1)) (mC (.int 2147483647))) (mC (.int 8))))
def part_l_m : FM := runF 2 2 (part_l_b )
def N_name_by_l : List Str := ["cell", "seed", "name", "k"]
def name_by_l_b (r_next_l : FM) : MS :=
  (sSeq (sAsg 1 (mCall [true] r_next_l (mCons (mV 0) mNil)))
  (sSeq (sAsg 2 (mC (.str "")))
  (sSeq (sFor 3 (mR1 (mBin addM (mC (.int 1)) (mBin modM (mV 0) (mC (.int 12)))))
  (sSeq (sAsg 2 (mBin addM (mV 2) (mBin ixM (mC (.str "abcdefghijklmnopqrstuvwxyz")) (mBin modM (mBin divM (mV 1) (mC (.int 64))) (mC (.int 26))))))
  (sAsg 1 (mCall [true] r_next_l (mCons (mV 1) mNil)))))
  (sRet (mV 2)))))
def name_by_l_m : FM := runF 4 1 (name_by_l_b next_l_m)
def N_names_by_l : List Str := ["cell"]
def names_by_l_b (r_name_by_l : FM) : MS :=
  (sRet (mLst (mCons (mCall [true] r_name_by_l (mCons (mV 0) mNil)) (mCons (mCall [true] r_name_by_l (mCons (mBin addM (mBin divM (mV 0) (mC (.int 12))) (mC (.int 5))) mNil)) (mCons (mSl (mCall [true] r_name_by_l (mCons (mV 0) mNil)) mNo (mSome (mC (.int 1)))) mNil)))))
def names_by_l_m : FM := runF 1 1 (names_by_l_b name_by_l_m)
def N_like_l : List Str := ["found", "due", "one", "other"]
def like_l_b (r_like_l : FM) : MS :=
  (sSeq (sIf (mTest (mUn (isiM "tuple") (mV 1)))
  (sSeq (sIf (mOrT (mNotT (mTest (mUn (isiM "tuple") (mV 0)))) (mTest (mBin neM (mUn lenM (mV 0)) (mUn lenM (mV 1)))))
  (sRet (mC (.bool false)))
  sSkip)
  (sSeq (sForZ 2 3 (mZ (mV 0)) (mZ (mV 1))
  (sIf (mNotT (mTest (mCall [true, true] r_like_l (mCons (mV 2) (mCons (mV 3) mNil)))))
  (sRet (mC (.bool false)))
  sSkip))
  (sRet (mC (.bool true)))))
  sSkip)
  (sSeq (sIf (mTest (mUn (isiM "str") (mV 1)))
  (sRet (mBl (mAnd (mUn (isiM "str") (mV 0)) (mBin eqM (mV 0) (mV 1)))))
  sSkip)
  (sRet (mBl (mAnd (mUn (isiM "int") (mV 0)) (mAnd (mNot (mUn (isiM "bool") (mV 0))) (mBin eqM (mV 0) (mV 1))))))))
def like_l_m : Nat → FM
  | 0 => fun _ => .stuck
  | n + 1 => runF 4 2 (like_l_b (like_l_m n))
def N_rows_like_l : List Str := ["found", "due", "one", "other"]
def rows_like_l_b (r_like_l : FM) : MS :=
  (sSeq (sIf (mOrT (mNotT (mTest (mUn (isiM "list") (mV 0)))) (mTest (mBin neM (mUn lenM (mV 0)) (mUn lenM (mV 1)))))
  (sRet (mC (.bool false)))
  sSkip)
  (sSeq (sForZ 2 3 (mZ (mV 0)) (mZ (mV 1))
  (sIf (mNotT (mTest (mCall [true, true] r_like_l (mCons (mV 2) (mCons (mV 3) mNil)))))
  (sRet (mC (.bool false)))
  sSkip))
  (sRet (mC (.bool true)))))
def rows_like_l_m : FM := runF 4 2 (rows_like_l_b (like_l_m 70))
def N_atom_l : List Str := ["number", "names"]
def atom_l_b  : MS :=
  (sSeq (sIf (mTest (mBin eqM (mBin modM (mV 0) (mC (.int 3))) (mC (.int 1))))
  (sRet (mTup (mCons (mC (.str "same")) (mCons (mTup (mCons (mC (.str "var")) (mCons (mV 0) mNil))) (mCons (mTup (mCons (mC (.str "fun")) (mCons (mBin ixM (mV 1) (mC (.int 0))) (mCons (mTup mNil) mNil)))) mNil)))))
  sSkip)
  (sSeq (sIf (mTest (mBin eqM (mBin modM (mV 0) (mC (.int 3))) (mC (.int 2))))
  (sRet (mTup (mCons (mC (.str "all")) (mCons (mTup (mCons (mC (.str "rel")) (mCons (mBin ixM (mV 1) (mC (.int 1))) (mCons (mTup (mCons (mTup (mCons (mC (.str "var")) (mCons (mV 0) mNil))) (mCons (mTup (mCons (mC (.str "var")) (mCons (mC (.int 0)) mNil))) mNil))) mNil)))) mNil))))
  sSkip)
  (sRet (mTup (mCons (mC (.str "rel")) (mCons (mBin ixM (mV 1) (mC (.int 2))) (mCons (mTup (mCons (mTup (mCons (mC (.str "var")) (mCons (mV 0) mNil))) mNil)) mNil)))))))
def atom_l_m : FM := runF 2 2 (atom_l_b )
def N_plain_l : List Str := ["seed", "deep", "names", "many", "left"]
def plain_l_b (r_atom_l : FM) (r_plain_l : FM) (r_part_l : FM) : MS :=
  (sSeq (sIf (mOrT (mTest (mBin eqM (mV 1) (mC (.int 0)))) (mTest (mBin eqM (mBin modM (mV 0) (mC (.int 5))) (mC (.int 0)))))
  (sSeq (sIf (mTest (mBin eqM (mBin modM (mBin divM (mV 0) (mC (.int 5))) (mC (.int 6))) (mC (.int 0))))
  (sRet (mTup (mCons (mC (.str "no")) mNil)))
  sSkip)
  (sRet (mCall [true, true] r_atom_l (mCons (mBin modM (mBin divM (mV 0) (mC (.int 30))) (mV 3)) (mCons (mV 2) mNil)))))
  sSkip)
  (sSeq (sAsg 4 (mCall [true, true, true, true] r_plain_l (mCons (mCall [true, true] r_part_l (mCons (mV 0) (mCons (mC (.int 0)) mNil))) (mCons (mBin subM (mV 1) (mC (.int 1))) (mCons (mV 2) (mCons (mV 3) mNil))))))
  (sRet (mTup (mCons (mC (.str "if")) (mCons (mV 4) (mCons (mCall [true, true, true, true] r_plain_l (mCons (mCall [true, true] r_part_l (mCons (mV 0) (mCons (mC (.int 1)) mNil))) (mCons (mBin subM (mV 1) (mC (.int 1))) (mCons (mV 2) (mCons (mV 3) mNil))))) mNil)))))))
def plain_l_m : Nat → FM
  | 0 => fun _ => .stuck
  | n + 1 => runF 5 4 (plain_l_b atom_l_m (plain_l_m n) part_l_m)
def N_met_l : List Str := ["form", "met"]
def met_l_b (r_met_l : FM) : MS :=
  (sSeq (sIf (mTest (mBin eqM (mBin ixM (mV 0) (mC (.int 0))) (mC (.str "if"))))
  (sRet (mCall [true, true] r_met_l (mCons (mBin ixM (mV 0) (mC (.int 2))) (mCons (mCall [true, true] r_met_l (mCons (mBin ixM (mV 0) (mC (.int 1))) (mCons (mV 1) mNil))) mNil))))
  sSkip)
  (sSeq (sIf (mOrT (mTest (mBin eqM (mBin ixM (mV 0) (mC (.int 0))) (mC (.str "no")))) (mTest (mBin (inM false) (mV 0) (mV 1))))
  (sRet (mV 1))
  sSkip)
  (sRet (mBin addM (mV 1) (mLst (mCons (mV 0) mNil))))))
def met_l_m : Nat → FM
  | 0 => fun _ => .stuck
  | n + 1 => runF 2 2 (met_l_b (met_l_m n))
def N_so_l : List Str := ["form", "met", "row"]
def so_l_b (r_so_l : FM) : MS :=
  (sSeq (sIf (mTest (mBin eqM (mBin ixM (mV 0) (mC (.int 0))) (mC (.str "if"))))
  (sRet (mBl (mOr (mCall [true, true, true] r_so_l (mCons (mBin ixM (mV 0) (mC (.int 2))) (mCons (mV 1) (mCons (mV 2) mNil)))) (mNot (mCall [true, true, true] r_so_l (mCons (mBin ixM (mV 0) (mC (.int 1))) (mCons (mV 1) (mCons (mV 2) mNil))))))))
  sSkip)
  (sRet (mBl (mAnd (mBin neM (mBin ixM (mV 0) (mC (.int 0))) (mC (.str "no"))) (mBin ixM (mV 2) (mBin indexM (mV 1) (mV 0)))))))
def so_l_m : Nat → FM
  | 0 => fun _ => .stuck
  | n + 1 => runF 3 3 (so_l_b (so_l_m n))
def N_first_l : List Str := ["form", "met", "row", "found"]
def first_l_b (r_so_l : FM) (r_first_l : FM) : MS :=
  (sSeq (sIf (mTest (mBin eqM (mUn lenM (mV 2)) (mUn lenM (mV 1))))
  (sRet (mIf (mTest (mCall [true, true, true] r_so_l (mCons (mV 0) (mCons (mV 1) (mCons (mV 2) mNil))))) (mC .none) (mV 2)))
  sSkip)
  (sSeq (sAsg 3 (mCall [true, true, true] r_first_l (mCons (mV 0) (mCons (mV 1) (mCons (mBin addM (mV 2) (mLst (mCons (mC (.bool false)) mNil))) mNil)))))
  (sSeq (sIf (mTest (mBin (isNM true) (mV 3) (mC .none)))
  (sRet (mV 3))
  sSkip)
  (sRet (mCall [true, true, true] r_first_l (mCons (mV 0) (mCons (mV 1) (mCons (mBin addM (mV 2) (mLst (mCons (mC (.bool true)) mNil))) mNil))))))))
def first_l_m : Nat → FM
  | 0 => fun _ => .stuck
  | n + 1 => runF 4 3 (first_l_b (so_l_m 70) (first_l_m n))
def N_large_l : List Str := ["form", "e"]
def large_l_b (r_refuter : FM) : MS :=
  (sSeq (sTryAs ["Unfit", "TooLarge"] 1 "HallError"
  (sDoX (xCall r_refuter (xCons (xE (mV 0)) xNil)))
  (sRet (mBl (mAnd (mIsE ["Unfit", "TooLarge"] 1 (subE · "TooLarge")) (mNot (mIsE ["Unfit", "TooLarge"] 1 (subE · "Unfit")))))))
  (sRet (mC (.bool false))))
def large_l_m : FM := runF 2 1 (large_l_b refuter_m)
def N_law_k08 : List Str := ["script", "names", "form", "met", "due", "found", "one", "k"]
def law_k08_b (r_names_by_l : FM) (r_cell_at_l : FM) (r_plain_l : FM) (r_next_l : FM) (r_atom_l : FM) (r_met_l : FM) (r_rows_like_l : FM) (r_atoms : FM) (r_large_l : FM) (r_first_l : FM) (r_refuter : FM) : MS :=
  (sSeq (sAsg 1 (mCall [true] r_names_by_l (mCons (mCall [false, true] r_cell_at_l (mCons (mVA 0) (mCons (mC (.int 0)) mNil))) mNil)))
  (sSeq (sAsg 2 (mCall [true, true, true, true] r_plain_l (mCons (mCall [true] r_next_l (mCons (mCall [false, true] r_cell_at_l (mCons (mVA 0) (mCons (mC (.int 1)) mNil))) mNil)) (mCons (mC (.int 4)) (mCons (mV 1) (mCons (mBin addM (mC (.int 1)) (mBin modM (mCall [false, true] r_cell_at_l (mCons (mVA 0) (mCons (mC (.int 2)) mNil))) (mC (.int 5)))) mNil))))))
  (sSeq (sIf (mTest (mBin eqM (mBin modM (mCall [false, true] r_cell_at_l (mCons (mVA 0) (mCons (mC (.int 3)) mNil))) (mC (.int 5))) (mC (.int 1))))
  (sFor 7 (mR1 (mBin addM (mC (.int 6)) (mBin modM (mBin divM (mCall [false, true] r_cell_at_l (mCons (mVA 0) (mCons (mC (.int 3)) mNil))) (mC (.int 5))) (mC (.int 5)))))
  (sAsg 2 (mTup (mCons (mC (.str "if")) (mCons (mCall [true, true] r_atom_l (mCons (mBin modM (mBin addM (mV 7) (mCall [false, true] r_cell_at_l (mCons (mVA 0) (mCons (mC (.int 2)) mNil)))) (mC (.int 10))) (mCons (mV 1) mNil))) (mCons (mV 2) mNil))))))
  sSkip)
  (sSeq (sAsg 3 (mCall [true, true] r_met_l (mCons (mV 2) (mCons (mLst mNil) mNil))))
  (sSeq (sIf (mNotT (mTest (mCall [true, true] r_rows_like_l (mCons (mCall [true] r_atoms (mCons (mV 2) mNil)) (mCons (mV 3) mNil)))))
  (sRet (mC (.bool false)))
  sSkip)
  (sSeq (sIf (mTest (mBin gtM (mUn lenM (mV 3)) (mC (.int 8))))
  (sRet (mCall [true] r_large_l (mCons (mV 2) mNil)))
  sSkip)
  (sSeq (sAsg 4 (mCall [true, true, true] r_first_l (mCons (mV 2) (mCons (mV 3) (mCons (mLst mNil) mNil)))))
  (sSeq (sAsgX 5 (xCall r_refuter (xCons (xE (mV 2)) xNil)))
  (sSeq (sIf (mOrT (mTest (mBin (isNM false) (mV 4) (mC .none))) (mTest (mBin (isNM false) (mV 5) (mC .none))))
  (sRet (mBl (mAnd (mBin (isNM false) (mV 4) (mC .none)) (mBin (isNM false) (mV 5) (mC .none)))))
  sSkip)
  (sSeq (sIf (mOrT (mNotT (mTest (mUn (isiM "list") (mV 5)))) (mTest (mBin neM (mUn lenM (mV 5)) (mUn lenM (mV 4)))))
  (sRet (mC (.bool false)))
  sSkip)
  (sSeq (sFor 6 (mIt (mV 5))
  (sIf (mNotT (mTest (mUn (isiM "bool") (mV 6))))
  (sRet (mC (.bool false)))
  sSkip))
  (sRet (mBin eqM (mV 5) (mV 4))))))))))))))
def law_k08_m : FM := runF 8 1 (law_k08_b names_by_l_m cell_at_l_m (plain_l_m 70) next_l_m atom_l_m (met_l_m 70) rows_like_l_m atoms_m large_l_m (first_l_m 70) refuter_m)
end PL

namespace PL
open PySem PySem.Spec PyProof.Rows L2
/-! words: terms and forms -/
inductive Wd where
  | var (n : Int) | no | fn (x : Str) (ps : List Wd) | rel (x : Str) (ps : List Wd) | same (a b : Wd) | iff (a b : Wd) | all (a : Wd)
namespace Wd
mutual
def data : Wd → PyData
  | .var n => .tuple [.str "var", .int n]
  | .no => .tuple [.str "no"]
  | .fn x ps => .tuple [.str "fun", .str x, .tuple (datas ps)]
  | .rel x ps => .tuple [.str "rel", .str x, .tuple (datas ps)]
  | .same a b => .tuple [.str "same", data a, data b]
  | .iff a b => .tuple [.str "if", data a, data b]
  | .all a => .tuple [.str "all", data a]
def datas : List Wd → List PyData
  | [] => []
  | w :: ws => data w :: datas ws
end
mutual
def lay : Wd → Nat
  | .var _ => 1
  | .no => 1
  | .fn _ ps => lays ps + 1
  | .rel _ ps => lays ps + 1
  | .same a b => max (lay a) (lay b) + 1
  | .iff a b => max (lay a) (lay b) + 1
  | .all a => lay a + 1
def lays : List Wd → Nat
  | [] => 0
  | w :: ws => max (lay w) (lays ws)
end
def kids : Wd → List Wd
  | .fn _ ps => ps
  | .rel _ ps => ps
  | .same a b => [a, b]
  | .iff a b => [a, b]
  | .all a => [a]
  | _ => []
def tag : Wd → Str
  | .var _ => "var"
  | .no => "no"
  | .fn _ _ => "fun"
  | .rel _ _ => "rel"
  | .same _ _ => "same"
  | .iff _ _ => "if"
  | .all _ => "all"
def isNo : Wd → Bool
  | .no => true
  | _ => false
def isIff : Wd → Bool
  | .iff _ _ => true
  | _ => false
theorem datas_map : ∀ ws, datas ws = ws.map data
  | [] => rfl
  | w :: ws => by rw [datas, datas_map ws]; rfl
theorem datas_len (ws : List Wd) : (datas ws).length = ws.length := by rw [datas_map, List.length_map]
theorem datas_app (ws us : List Wd) : datas (ws ++ us) = datas ws ++ datas us := by rw [datas_map, datas_map, datas_map, List.map_append]
theorem lay_pos (w : Wd) : 1 ≤ w.lay := by cases w <;> simp [lay]
theorem le_lays : ∀ {ws : List Wd} {w : Wd}, w ∈ ws → w.lay ≤ lays ws
  | _ :: _, _, .head _ => by rw [lays]; omega
  | _ :: _, _, .tail _ h => by rw [lays]; have := le_lays h; omega
theorem lays_le : ∀ {ws : List Wd} {n : Nat}, (∀ w ∈ ws, w.lay ≤ n) → lays ws ≤ n
  | [], _, _ => by simp [lays]
  | w :: ws, n, h => by
    rw [lays]
    have h1 := h w (.head _)
    have h2 := lays_le (ws := ws) (n := n) fun u hu => h u (.tail _ hu)
    omega
theorem kids_lay {w k : Wd} (h : k ∈ w.kids) : k.lay < w.lay := by
  cases w with
  | fn x ps => have := le_lays (show k ∈ ps from h); simp only [lay]; omega
  | rel x ps => have := le_lays (show k ∈ ps from h); simp only [lay]; omega
  | same a b => simp [kids] at h; simp only [lay]; rcases h with rfl | rfl <;> omega
  | iff a b => simp [kids] at h; simp only [lay]; rcases h with rfl | rfl <;> omega
  | all a => simp [kids] at h; simp only [lay]; subst h; omega
  | _ => simp [kids] at h
theorem kids_le {w k : Wd} {n : Nat} (hl : w.lay ≤ n + 1) (h : k ∈ w.kids) : k.lay ≤ n := by have := kids_lay h; omega
theorem isNo_eq {w : Wd} (h : w.isNo = true) : w = .no := by cases w <;> first | rfl | cases h
/-! maps over vars, by the depth -/
end Wd
theorem sSkip_ap (ρ : Rho) : sSkip ρ = .nx ρ := rfl
/-! ### ints -/
theorem subM_i (i j : Int) : subM (.int i) (.int j) = some (.int (i - j)) := rfl
theorem ltM_i (i j : Int) : ltM (.int i) (.int j) = some (.bool (decide (i < j))) := rfl
theorem leM_i (i j : Int) : leM (.int i) (.int j) = some (.bool (decide (i ≤ j))) := rfl
theorem gtM_i (i j : Int) : gtM (.int i) (.int j) = some (.bool (decide (j < i))) := rfl
theorem geM_i (i j : Int) : geM (.int i) (.int j) = some (.bool (decide (j ≤ i))) := rfl
/-! ### the tags -/
open Wd
theorem ix0 (w : Wd) : ixM w.data (.int 0) = some (.str w.tag) := by cases w <;> kernel_rfl
theorem tg_no (w : Wd) : eqM (.str w.tag) (.str "no") = some (.bool w.isNo) := by cases w <;> kernel_rfl
theorem tg_if (w : Wd) : eqM (.str w.tag) (.str "if") = some (.bool w.isIff) := by cases w <;> kernel_rfl
/-! ### comprehensions and loops of mirrors -/
theorem forL_rng {i n : Nat} {body : MS} {lo : Int} (I : Nat → Rho → Prop) (h : ∀ j ρ, j < n → I j ρ → isO ρ[i]? = false ∧ ∃ ρ', body (ρ.set i (.d (.int (lo + (j : Int))))) = .nx ρ' ∧ I (j + 1) ρ') :
    ∀ ρ, I 0 ρ → ∃ ρ', forL i body (rngD lo n) ρ = .nx ρ' ∧ I n ρ' := by
  have main : ∀ m j ρ, m + j = n → I j ρ → ∃ ρ', forL i body ((rngD lo n).drop j) ρ = .nx ρ' ∧ I n ρ' := by
    intro m
    induction m with
    | zero =>
      intro j ρ e hI
      have e : j = n := by omega
      subst e
      rw [List.drop_eq_nil_of_le (by rw [rngD_len]; exact Nat.le_refl _)]
      exact ⟨ρ, rfl, hI⟩
    | succ m ih =>
      intro j ρ e hI
      have hj : j < n := by omega
      obtain ⟨ho, ρ', hb, hI'⟩ := h j ρ hj hI
      obtain ⟨ρ2, h2, hI2⟩ := ih (j + 1) ρ' (by omega) hI'
      refine ⟨ρ2, ?_, hI2⟩
      rw [drop_cons (rngD_get hj), forL, ho, hb]
      exact h2
  intro ρ hI
  have := main n 0 ρ rfl hI
  rwa [List.drop_zero] at this
end PL

namespace PL
open PySem PySem.Spec PyProof.Rows L2
/-! ### how a mirror's statement ends -/
def Ends (s : MS) (ρ : Rho) (Q : Out → Prop) : Prop := Q (s ρ)
theorem Ends.nx {a b : MS} {ρ ρ' : Rho} {Q : Out → Prop} (h : a ρ = .nx ρ') (k : Ends b ρ' Q) : Ends (sSeq a b) ρ Q := by
  unfold Ends sSeq; rw [h]; exact k
theorem Ends.last {a : MS} {ρ : Rho} {o : Out} {Q : Out → Prop} (h : a ρ = o) (k : Q o) : Ends a ρ Q := by unfold Ends; rw [h]; exact k
/-- a statement that goes on, into one of many -/
theorem Ends.go {a b : MS} {ρ : Rho} {Q : Out → Prop} (I : Rho → Prop) (h : Ends a ρ fun o => ∃ ρ', o = .nx ρ' ∧ I ρ') (k : ∀ ρ', I ρ' → Ends b ρ' Q) : Ends (sSeq a b) ρ Q := by
  obtain ⟨ρ', e, hI⟩ := h
  exact .nx e (k ρ' hI)
/-- a statement that goes on or ends all -/
theorem Ends.seq {a b : MS} {ρ : Rho} {Q : Out → Prop} (h : Ends a ρ fun o => (∃ ρ', o = .nx ρ' ∧ Ends b ρ' Q) ∨ ((∀ ρ', o ≠ .nx ρ') ∧ Q o)) : Ends (sSeq a b) ρ Q := by
  rcases h with ⟨ρ', e, k⟩ | ⟨h1, h2⟩
  · exact .nx e k
  · unfold Ends sSeq
    generalize a ρ = o at h1 h2
    cases o with
    | nx ρ' => exact absurd rfl (h1 ρ')
    | _ => exact h2
theorem Ends.mono {a : MS} {ρ : Rho} {Q R : Out → Prop} (h : Ends a ρ Q) (k : ∀ o, Q o → R o) : Ends a ρ R := k _ h
theorem Ends.ite {t : MT} {a b : MS} {ρ : Rho} {c : Bool} {Q : Out → Prop} (h : t ρ = some c) (h1 : c = true → Ends a ρ Q) (h2 : c = false → Ends b ρ Q) : Ends (sIf t a b) ρ Q := by
  unfold Ends sIf; rw [h]
  cases c
  · exact h2 rfl
  · exact h1 rfl
theorem Ends.forL {α : Type} {i : Nat} {body : MS} {g : α → PyData} {all : List α} {Q : Out → Prop} (I : List α → Rho → Prop)
    (h : ∀ vs u us ρ, vs ++ u :: us = all → I vs ρ → isO ρ[i]? = false ∧ Ends body (ρ.set i (.d (g u))) fun o => (∃ ρ', (o = .nx ρ' ∨ o = .ct ρ') ∧ I (vs ++ [u]) ρ') ∨ (∃ ρ', o = .bk ρ' ∧ Q (.nx ρ')) ∨ (∃ d ρ', o = .rt d ρ' ∧ Q o) ∨ (∃ c ρ', o = .ex c ρ' ∧ Q o))
    (hq : ∀ ρ', I all ρ' → Q (.nx ρ')) : ∀ (us vs : List α) (ρ : Rho), vs ++ us = all → I vs ρ → Q (forL i body (us.map g) ρ)
  | [], vs, ρ, e, hI => by rw [List.append_nil] at e; subst e; exact hq ρ hI
  | u :: us, vs, ρ, e, hI => by
    obtain ⟨ho, hb⟩ := h vs u us ρ e hI
    unfold Ends at hb
    rw [List.map_cons, PL.forL, ho]
    generalize hbo : body (ρ.set i (.d (g u))) = o at hb
    rcases hb with ⟨ρ', e' | e', hI'⟩ | ⟨ρ', rfl, hq'⟩ | ⟨d, ρ', rfl, hq'⟩ | ⟨c, ρ', rfl, hq'⟩
    · subst e'; exact Ends.forL I h hq us (vs ++ [u]) ρ' (by rw [List.append_assoc]; exact e) hI'
    · subst e'; exact Ends.forL I h hq us (vs ++ [u]) ρ' (by rw [List.append_assoc]; exact e) hI'
    · exact hq'
    · exact hq'
    · exact hq'
/-- a for that may end early -/
theorem Ends.forE {α : Type} {i : Nat} {src : ML} {body : MS} {g : α → PyData} {all : List α} {ρ : Rho} {Q : Out → Prop} (I : List α → Rho → Prop) (hs : src ρ = some (all.map g)) (h0 : I [] ρ)
    (h : ∀ vs u us ρ, vs ++ u :: us = all → I vs ρ → isO ρ[i]? = false ∧ Ends body (ρ.set i (.d (g u))) fun o => (∃ ρ', (o = .nx ρ' ∨ o = .ct ρ') ∧ I (vs ++ [u]) ρ') ∨ (∃ ρ', o = .bk ρ' ∧ Q (.nx ρ')) ∨ (∃ d ρ', o = .rt d ρ' ∧ Q o) ∨ (∃ c ρ', o = .ex c ρ' ∧ Q o))
    (hq : ∀ ρ', I all ρ' → Q (.nx ρ')) : Ends (sFor i src body) ρ Q := by
  unfold Ends sFor; rw [hs]; exact Ends.forL I h hq all [] ρ rfl h0
/-- a for that goes through all -/
theorem Ends.forG {α : Type} {i : Nat} {src : ML} {body : MS} {g : α → PyData} {all : List α} {ρ : Rho} {Q : Out → Prop} (I : List α → Rho → Prop) (hs : src ρ = some (all.map g)) (h0 : I [] ρ)
    (h : ∀ vs u us ρ, vs ++ u :: us = all → I vs ρ → isO ρ[i]? = false ∧ Ends body (ρ.set i (.d (g u))) fun o => ∃ ρ', o = .nx ρ' ∧ I (vs ++ [u]) ρ')
    (hq : ∀ ρ', I all ρ' → Q (.nx ρ')) : Ends (sFor i src body) ρ Q :=
  .forE I hs h0 (fun vs u us ρ e hI => ⟨(h vs u us ρ e hI).1, (h vs u us ρ e hI).2.mono fun o ⟨ρ', e, h⟩ => .inl ⟨ρ', .inl e, h⟩⟩) hq
/-- a for over a range -/
theorem Ends.forR {i n : Nat} {lo : Int} {src : ML} {body : MS} {ρ : Rho} {Q : Out → Prop} (I : Nat → Rho → Prop) (hs : src ρ = some (rngD lo n)) (h0 : I 0 ρ)
    (h : ∀ j ρ, j < n → I j ρ → isO ρ[i]? = false ∧ Ends body (ρ.set i (.d (.int (lo + (j : Int))))) fun o => ∃ ρ', o = .nx ρ' ∧ I (j + 1) ρ')
    (hq : ∀ ρ', I n ρ' → Q (.nx ρ')) : Ends (sFor i src body) ρ Q :=
  .forG (α := Nat) (g := fun j => .int (lo + (j : Int))) (all := List.range n) (fun vs ρ => I vs.length ρ) hs h0 (fun vs j us ρ e hI => by
    have hl := congrArg List.length e
    rw [List.length_append, List.length_cons, List.length_range] at hl
    have hj : j = vs.length := by
      have : (List.range n)[vs.length]? = some j := by rw [← e]; simp
      rw [List.getElem?_range (by omega)] at this
      exact (Option.some.inj this).symm
    subst hj
    rw [List.length_append, List.length_singleton]
    exact h _ ρ (by omega) hI) (fun ρ' hI => hq ρ' (by rwa [List.length_range] at hI))
theorem forL_any {α : Type} {i : Nat} {body : MS} {g : α → PyData} {p : α → Bool} {r : PyData} (I : Rho → Prop) : ∀ (us : List α) (ρ : Rho), I ρ → (∀ u ∈ us, ∀ ρ, I ρ → isO ρ[i]? = false ∧ ∃ ρ', I ρ' ∧ body (ρ.set i (.d (g u))) = if p u = true then .rt r ρ' else .nx ρ') →
    ∃ ρ', I ρ' ∧ forL i body (us.map g) ρ = if us.any p = true then .rt r ρ' else .nx ρ'
  | [], ρ, hI, _ => ⟨ρ, hI, rfl⟩
  | u :: us, ρ, hI, h => by
    obtain ⟨ho, ρ', hI', hb⟩ := h u (.head _) ρ hI
    rw [List.map_cons, forL, ho, hb]
    cases hp : p u with
    | true => exact ⟨ρ', hI', by simp [hp]⟩
    | false =>
      obtain ⟨ρ2, hI2, h2⟩ := forL_any I us ρ' hI' fun u hu => h u (.tail _ hu)
      exact ⟨ρ2, hI2, by simp [hp, h2]⟩
/-- a search: a for that ends all where p is so -/
theorem Ends.srch {α : Type} {i : Nat} {src : ML} {body rest : MS} {g : α → PyData} {all : List α} {ρ : Rho} {Q : Out → Prop} (I : Rho → Prop) (p : α → Bool) (r : PyData) (hs : src ρ = some (all.map g)) (h0 : I ρ)
    (h : ∀ u ∈ all, ∀ ρ, I ρ → isO ρ[i]? = false ∧ ∃ ρ', I ρ' ∧ body (ρ.set i (.d (g u))) = if p u = true then .rt r ρ' else .nx ρ')
    (k1 : all.any p = true → ∀ ρ', I ρ' → Q (.rt r ρ')) (k2 : all.any p = false → ∀ ρ', I ρ' → Ends rest ρ' Q) : Ends (sSeq (sFor i src body) rest) ρ Q := by
  obtain ⟨ρ', hI, e⟩ := forL_any I all ρ h0 h
  unfold Ends sSeq sFor
  rw [hs]
  dsimp only
  rw [e]
  cases hp : all.any p with
  | true => exact k1 hp ρ' hI
  | false => exact k2 hp ρ' hI
theorem forL_find {α : Type} {i : Nat} {body : MS} {g : α → PyData} {p : α → Bool} (I : Rho → Prop) : ∀ (us : List α) (ρ : Rho), I ρ → (∀ u ∈ us, ∀ ρ, I ρ → isO ρ[i]? = false ∧ ∃ ρ', I ρ' ∧ body (ρ.set i (.d (g u))) = if p u = true then .rt (g u) ρ' else .nx ρ') →
    ∃ ρ', I ρ' ∧ forL i body (us.map g) ρ = match us.find? p with
      | some u => .rt (g u) ρ'
      | none => .nx ρ'
  | [], ρ, hI, _ => ⟨ρ, hI, rfl⟩
  | u :: us, ρ, hI, h => by
    obtain ⟨ho, ρ', hI', hb⟩ := h u (.head _) ρ hI
    rw [List.map_cons, PL.forL, ho, hb]
    cases hp : p u with
    | true => exact ⟨ρ', hI', by simp [hp]⟩
    | false =>
      obtain ⟨ρ2, hI2, h2⟩ := forL_find I us ρ' hI' fun u hu => h u (.tail _ hu)
      exact ⟨ρ2, hI2, by simp [hp, h2]⟩
/-- a for that hands back the first one where p is so -/
theorem Ends.find {α : Type} {i : Nat} {src : ML} {body rest : MS} {g : α → PyData} {all : List α} {ρ : Rho} {Q : Out → Prop} (I : Rho → Prop) (p : α → Bool) (hs : src ρ = some (all.map g)) (h0 : I ρ)
    (h : ∀ u ∈ all, ∀ ρ, I ρ → isO ρ[i]? = false ∧ ∃ ρ', I ρ' ∧ body (ρ.set i (.d (g u))) = if p u = true then .rt (g u) ρ' else .nx ρ')
    (k1 : ∀ u, all.find? p = some u → ∀ ρ', I ρ' → Q (.rt (g u) ρ')) (k2 : all.find? p = none → ∀ ρ', I ρ' → Ends rest ρ' Q) : Ends (sSeq (sFor i src body) rest) ρ Q := by
  obtain ⟨ρ', hI, e⟩ := forL_find I all ρ h0 h
  unfold Ends sSeq sFor
  rw [hs]
  dsimp only
  rw [e]
  cases hp : all.find? p with
  | some u => exact k1 u hp ρ' hI
  | none => exact k2 hp ρ' hI
theorem Ends.ret {m : ME} {ρ : Rho} {d : PyData} {Q : Out → Prop} (h : m ρ = some d) (k : Q (.rt d ρ)) : Ends (sRet m) ρ Q := by unfold Ends sRet; rw [h]; exact k
/-! what a def ends with -/
def fin (args : List Sl) : Out → FOut
  | .nx ρ => .ret .none (outs args ρ)
  | .rt d ρ => .ret d (outs args ρ)
  | .ex c ρ => .ex c (outs args ρ)
  | _ => .stuck
theorem runF_fin {n np : Nat} {m : MS} {args : List Sl} (h : args.length = np) : runF n np m args = fin args (m (args ++ List.replicate (n - np) .nil)) := by
  unfold runF fin
  rw [if_pos h] <;> (generalize m _ = o; cases o <;> rfl)
/-- a law that says True -/
def Yes : Out → Prop := fun o => ∃ ρ, o = .rt (.bool true) ρ
theorem Ends.yes {m : ME} {ρ : Rho} (h : m ρ = some (.bool true)) : Ends (sRet m) ρ Yes := .ret h ⟨_, rfl⟩
theorem law_yes {n : Nat} {m : MS} {a : Sl} (k : Ends m ([a] ++ List.replicate (n - 1) .nil) Yes) : ∃ obs, runF n 1 m [a] = .ret (.bool true) obs := by
  obtain ⟨ρ, e⟩ := k
  rw [runF_fin (np := 1) (args := [a]) rfl, e]
  exact ⟨_, rfl⟩
/-- a def of data alone -/
theorem fn_ret {n np : Nat} {m : MS} {args : List Sl} {d : PyData} (h : args.length = np) (hd : ∀ s ∈ args, isO (some s) = false) (k : Ends m (args ++ List.replicate (n - np) .nil) fun o => ∃ ρ, o = .rt d ρ) : runF n np m args = .ret d [] := by
  obtain ⟨ρ, e⟩ := k
  rw [runF_fin h, e]
  unfold fin
  congr 1
  clear e h
  induction args generalizing ρ with
  | nil => cases ρ <;> rfl
  | cons a as ih =>
    have ha := hd a (.head _)
    have ih := fun ρ => ih (fun s hs => hd s (.tail _ hs)) ρ
    cases ρ with
    | nil => cases a <;> rfl
    | cons b ρ => cases a <;> first | exact ih ρ | cases ha
end PL

namespace PL
open PySem PySem.Spec PyProof.Rows L2
open Wd
/-! ### comparing -/
theorem eqM_int (i j : Int) : eqM (.int i) (.int j) = some (.bool (decide (i = j))) := by
  have h : eqM (.int i) (.int j) = some (.bool (i == j)) := by
    unfold eqM
    rw [if_pos ⟨by rfl, by rfl, by simp only [PyData.depth]; decide⟩]
    simp only [PyData.eqv]
  rw [h]
  rfl
theorem eqM_str {x y : Str} (hx : PyData.strOk x = true) (hy : PyData.strOk y = true) : eqM (.str x) (.str y) = some (.bool (decide (x = y))) := by
  have h : eqM (.str x) (.str y) = some (.bool (x == y)) := by
    unfold eqM
    rw [if_pos ⟨by simpa only [PyData.canLay0] using hx, by simpa only [PyData.canLay0] using hy, by simp only [PyData.depth]; decide⟩]
    simp only [PyData.eqv]
  rw [h]
  by_cases e : x = y
  · subst e; simp
  · simp [e]
theorem neM_int (i j : Int) : neM (.int i) (.int j) = some (.bool (!decide (i = j))) := by
  have h : neM (.int i) (.int j) = some (.bool (!(i == j))) := by
    unfold neM
    rw [if_pos ⟨by rfl, by rfl, by simp only [PyData.depth]; decide⟩]
    simp only [PyData.eqv]
  rw [h]
  rfl
/-! ### names -/
structure Nm (x : Str) : Prop where
  pos : 1 ≤ x.length
  le : x.length ≤ 12
  low : ∀ c ∈ x.cps.toList, 97 ≤ c ∧ c ≤ 122
theorem low_ok {x : Str} (h : ∀ c ∈ x.cps.toList, 97 ≤ c ∧ c ≤ 122) : PyData.strOk x = true := by
  unfold PyData.strOk
  rw [← Array.all_toList]
  exact List.all_eq_true.mpr fun c hc => by have := h c hc; simp; omega
theorem Nm.ok {x : Str} (h : Nm x) : PyData.strOk x = true := low_ok h.low
def nmD (a b c : Str) : PyData := .list [.str a, .str b, .str c]
/-! ### small helpers of the laws -/
theorem mul_ok {i c : Int} (h1 : -(2 ^ 64) < c) (h2 : c < 2 ^ 64) : mulM (.int i) (.int c) = some (.int (i * c)) := by
  show (if _ ∨ _ then _ else _) = _
  rw [if_pos (.inr ⟨h1, h2⟩)]
theorem div_ok {i j : Int} (h1 : 0 < j) (h2 : j < 1073741824) : divM (.int i) (.int j) = some (.int (i / j)) := by
  show (if _ ∧ _ then _ else _) = _
  rw [if_pos ⟨h1, h2⟩]
theorem mod_ok {i j : Int} (h1 : 0 < j) : modM (.int i) (.int j) = some (.int (i % j)) := by
  show (if _ then _ else _) = _
  rw [if_pos h1]
def nextI (i : Int) : Int := (i * 48271 + 12345) % 2147483647
theorem next_fn (i : Int) : next_l_m [.d (.int i)] = .ret (.int (nextI i)) [] := by
  simp only [next_l_m, next_l_b, runF, sSeq, sIf, sRet, sAsg, sNew, sApp, sSkip_ap, sFor, sForZ, mCall, mCons, mNil, mV, mVA, mC, mBin, mUn, mTest, mAndT, mOrT, mNotT, mAnd, mOr, mNot, mBl, bl?, mIf, mTup, mLst, mSl, mSome, mNo, mComp, mIt, mItB, mR1, mR2, mR1c, mZ, mZB, mYes, mkArgs, outs, itemsOf, isO, listM, tupleM, lenM, intM, subM_i, ltM_i, leM_i, gtM_i, geM_i, addM, Option.bind_some, Option.bind_none, Option.map_some, Option.map_none, List.length_cons, List.length_nil, List.getElem?_cons_zero, List.getElem?_cons_succ, List.set_cons_zero, List.set_cons_succ, List.cons_append, List.nil_append, List.append_nil, List.replicate, if_true, if_false, Nat.reduceAdd, Nat.reduceSub, Nat.reduceLeDiff, Nat.reduceEqDiff, reduceIte, Bool.false_eq_true, reduceCtorEq, Bool.not_true, Bool.not_false, decide_true, decide_false, id, mul_ok (i := i) (c := 48271) (by decide) (by decide), mod_ok (i := i * 48271 + 12345) (j := 2147483647) (by decide), nextI]
theorem part_tab {m : Int} (h : 0 ≤ m) (h5 : m < 5) : ∃ c : Int, ixM (.list [.int 48271, .int 69621, .int 16807, .int 40692, .int 39373]) (.int m) = some (.int c) ∧ -(2 ^ 64) < c ∧ c < 2 ^ 64 := by
  have : m = 0 ∨ m = 1 ∨ m = 2 ∨ m = 3 ∨ m = 4 := by omega
  rcases this with rfl | rfl | rfl | rfl | rfl
  · exact ⟨48271, rfl, by decide, by decide⟩
  · exact ⟨69621, rfl, by decide, by decide⟩
  · exact ⟨16807, rfl, by decide, by decide⟩
  · exact ⟨40692, rfl, by decide, by decide⟩
  · exact ⟨39373, rfl, by decide, by decide⟩
theorem part_fn (i k : Int) : ∃ r, 0 ≤ r ∧ part_l_m [.d (.int i), .d (.int k)] = .ret (.int r) [] := by
  obtain ⟨c, e, h1, h2⟩ := part_tab (m := k % 5) (by omega) (by omega)
  refine ⟨(i * c + 12345 + k) % 2147483647 / 8, by omega, ?_⟩
  simp [part_l_m, part_l_b, runF, sSeq, sIf, sRet, sAsg, sNew, sApp, sSkip_ap, sFor, sForZ, mCall, mCons, mNil, mV, mVA, mC, mBin, mUn, mTest, mAndT, mOrT, mNotT, mAnd, mOr, mNot, mBl, bl?, mIf, mTup, mLst, mSl, mSome, mNo, mComp, mIt, mItB, mR1, mR2, mR1c, mZ, mZB, mYes, mkArgs, outs, itemsOf, isO, listM, tupleM, lenM, intM, subM_i, ltM_i, leM_i, gtM_i, geM_i, addM, Option.bind_some, Option.bind_none, Option.map_some, Option.map_none, List.length_cons, List.length_nil, List.getElem?_cons_zero, List.getElem?_cons_succ, List.set_cons_zero, List.set_cons_succ, List.cons_append, List.nil_append, List.append_nil, List.replicate, if_true, if_false, Nat.reduceAdd, Nat.reduceSub, Nat.reduceLeDiff, Nat.reduceEqDiff, reduceIte, Bool.false_eq_true, reduceCtorEq, Bool.not_true, Bool.not_false, decide_true, decide_false, id, mod_ok, div_ok, e, mul_ok h1 h2]
def letters : Str := "abcdefghijklmnopqrstuvwxyz"
theorem letters_cps : letters.cps.toList = (List.range 26).map (97 + ·) := by decide +kernel
theorem ix_letter {i : Int} (h0 : 0 ≤ i) (h : i < 26) : ixM (.str "abcdefghijklmnopqrstuvwxyz") (.int i) = some (.str ⟨#[97 + i.toNat]⟩) := by
  have e : ixM (.str letters) (.int i) = (atI letters.cps.toList i).map fun c => .str ⟨#[c]⟩ := by
    have hl : letters.length ≤ sizeLine := by decide +kernel
    exact @if_pos (letters.length ≤ sizeLine) _ hl (Option PyData) _ none
  refine Eq.trans e ?_
  rw [letters_cps]
  have hn : i = (i.toNat : Int) := by omega
  have hg : ((List.range 26).map (97 + ·))[i.toNat]? = some (97 + i.toNat) := by
    rw [List.getElem?_map, List.getElem?_range (by omega)]
    rfl
  have := atI_nat hg
  rw [← hn] at this
  rw [this]
  rfl
theorem name_fn (c : Int) : ∃ x, name_by_l_m [.d (.int c)] = .ret (.str x) [] ∧ Nm x := by
  have key := forL_rng (i := 3) (n := (1 + c % 12).toNat) (lo := 0) (body := sSeq (sAsg 2 (mBin addM (mV 2) (mBin ixM (mC (.str "abcdefghijklmnopqrstuvwxyz")) (mBin modM (mBin divM (mV 1) (mC (.int 64))) (mC (.int 26))))))
      (sAsg 1 (mCall [true] next_l_m (mCons (mV 1) mNil))))
    (fun j ρ => ∃ s x k, ρ = [.d (.int c), .d (.int s), .d (.str x), k] ∧ isO (some k) = false ∧ x.length = j ∧ ∀ c ∈ x.cps.toList, 97 ≤ c ∧ c ≤ 122)
    (by
      rintro j ρ hj ⟨s, x, k, rfl, hk, hl, hx⟩
      refine ⟨hk, ?_⟩
      have e := ix_letter (i := s / 64 % 26) (by omega) (by omega)
      refine ⟨_, ?_, nextI s, x ++ ⟨#[97 + (s / 64 % 26).toNat]⟩, .d (.int (0 + (j : Int))), rfl, rfl, ?_, ?_⟩
      · simp only [runF, sSeq, sIf, sRet, sAsg, sNew, sApp, sSkip_ap, sFor, sForZ, mCall, mCons, mNil, mV, mVA, mC, mBin, mUn, mTest, mAndT, mOrT, mNotT, mAnd, mOr, mNot, mBl, bl?, mIf, mTup, mLst, mSl, mSome, mNo, mComp, mIt, mItB, mR1, mR2, mR1c, mZ, mZB, mYes, mkArgs, outs, itemsOf, isO, listM, tupleM, lenM, intM, subM_i, ltM_i, leM_i, gtM_i, geM_i, addM, Option.bind_some, Option.bind_none, Option.map_some, Option.map_none, List.length_cons, List.length_nil, List.getElem?_cons_zero, List.getElem?_cons_succ, List.set_cons_zero, List.set_cons_succ, List.cons_append, List.nil_append, List.append_nil, List.replicate, if_true, if_false, Nat.reduceAdd, Nat.reduceSub, Nat.reduceLeDiff, Nat.reduceEqDiff, reduceIte, Bool.false_eq_true, reduceCtorEq, Bool.not_true, Bool.not_false, decide_true, decide_false, id, div_ok (i := s) (j := 64) (by decide) (by decide), mod_ok (i := s / 64) (j := 26) (by decide), e, next_fn]
        rw [if_pos (by show x.length + 1 ≤ sizeLine; rw [hl, sizeLine_eq]; omega)]
        simp only [runF, sSeq, sIf, sRet, sAsg, sNew, sApp, sSkip_ap, sFor, sForZ, mCall, mCons, mNil, mV, mVA, mC, mBin, mUn, mTest, mAndT, mOrT, mNotT, mAnd, mOr, mNot, mBl, bl?, mIf, mTup, mLst, mSl, mSome, mNo, mComp, mIt, mItB, mR1, mR2, mR1c, mZ, mZB, mYes, mkArgs, outs, itemsOf, isO, listM, tupleM, lenM, intM, subM_i, ltM_i, leM_i, gtM_i, geM_i, addM, Option.bind_some, Option.bind_none, Option.map_some, Option.map_none, List.length_cons, List.length_nil, List.getElem?_cons_zero, List.getElem?_cons_succ, List.set_cons_zero, List.set_cons_succ, List.cons_append, List.nil_append, List.append_nil, List.replicate, if_true, if_false, Nat.reduceAdd, Nat.reduceSub, Nat.reduceLeDiff, Nat.reduceEqDiff, reduceIte, Bool.false_eq_true, reduceCtorEq, Bool.not_true, Bool.not_false, decide_true, decide_false, id, next_fn]
      · rw [Str.length_append, hl]; rfl
      · intro d hd
        rw [Str.cps_append] at hd
        simp at hd
        rcases hd with hd | rfl
        · exact hx d (by simpa using hd)
        · omega)
    [.d (.int c), .d (.int (nextI c)), .d (.str ""), .nil] ⟨_, _, _, rfl, rfl, rfl, by rw [show (Str.ofString "").cps.toList = [] from by decide +kernel]; intro c hc; cases hc⟩
  obtain ⟨ρ', e, s, x, k, rfl, hk, hl, hx⟩ := key
  refine ⟨x, ?_, by omega, by omega, hx⟩
  simp only [name_by_l_m, name_by_l_b, runF, sSeq, sIf, sRet, sAsg, sNew, sApp, sSkip_ap, sFor, sForZ, mCall, mCons, mNil, mV, mVA, mC, mBin, mUn, mTest, mAndT, mOrT, mNotT, mAnd, mOr, mNot, mBl, bl?, mIf, mTup, mLst, mSl, mSome, mNo, mComp, mIt, mItB, mR1, mR2, mR1c, mZ, mZB, mYes, mkArgs, outs, itemsOf, isO, listM, tupleM, lenM, intM, subM_i, ltM_i, leM_i, gtM_i, geM_i, addM, Option.bind_some, Option.bind_none, Option.map_some, Option.map_none, List.length_cons, List.length_nil, List.getElem?_cons_zero, List.getElem?_cons_succ, List.set_cons_zero, List.set_cons_succ, List.cons_append, List.nil_append, List.append_nil, List.replicate, if_true, if_false, Nat.reduceAdd, Nat.reduceSub, Nat.reduceLeDiff, Nat.reduceEqDiff, reduceIte, Bool.false_eq_true, reduceCtorEq, Bool.not_true, Bool.not_false, decide_true, decide_false, id, next_fn, mod_ok (i := c) (j := 12) (by decide)]
  rw [if_pos (by omega)]
  simp only [e, runF, sSeq, sIf, sRet, sAsg, sNew, sApp, sSkip_ap, sFor, sForZ, mCall, mCons, mNil, mV, mVA, mC, mBin, mUn, mTest, mAndT, mOrT, mNotT, mAnd, mOr, mNot, mBl, bl?, mIf, mTup, mLst, mSl, mSome, mNo, mComp, mIt, mItB, mR1, mR2, mR1c, mZ, mZB, mYes, mkArgs, outs, itemsOf, isO, listM, tupleM, lenM, intM, subM_i, ltM_i, leM_i, gtM_i, geM_i, addM, Option.bind_some, Option.bind_none, Option.map_some, Option.map_none, List.length_cons, List.length_nil, List.getElem?_cons_zero, List.getElem?_cons_succ, List.set_cons_zero, List.set_cons_succ, List.cons_append, List.nil_append, List.append_nil, List.replicate, if_true, if_false, Nat.reduceAdd, Nat.reduceSub, Nat.reduceLeDiff, Nat.reduceEqDiff, reduceIte, Bool.false_eq_true, reduceCtorEq, Bool.not_true, Bool.not_false, decide_true, decide_false, id]
/-- the three names -/
theorem names_fn (c : Int) : ∃ a b d, names_by_l_m [.d (.int c)] = .ret (nmD a b d) [] ∧ Nm a ∧ Nm b ∧ Nm d := by
  obtain ⟨a, ea, ha⟩ := name_fn c
  obtain ⟨b, eb, hb⟩ := name_fn (c / 12 + 5)
  have es : slM (.str a) none (some 1) = some (.str ⟨(a.cps.toList.take 1).toArray⟩) := by
    have hl : a.length ≤ sizeLine := by have := ha.le; rw [sizeLine_eq]; omega
    refine (@if_pos (a.length ≤ sizeLine) _ hl (Option PyData) _ none).trans ?_
    have hp := ha.pos
    have e1 : HT.sIx a.length a.length (some 1) = 1 := by
      have := HT.sIx_nat a.length a.length 1
      rw [show ((1 : Nat) : Int) = 1 from rfl] at this
      rw [this]; omega
    unfold cutS
    rw [e1]
    rfl
  refine ⟨a, b, ⟨(a.cps.toList.take 1).toArray⟩, ?_, ha, hb, ?_⟩
  · simp only [names_by_l_m, names_by_l_b, runF, sSeq, sIf, sRet, sAsg, sNew, sApp, sSkip_ap, sFor, sForZ, mCall, mCons, mNil, mV, mVA, mC, mBin, mUn, mTest, mAndT, mOrT, mNotT, mAnd, mOr, mNot, mBl, bl?, mIf, mTup, mLst, mSl, mSome, mNo, mComp, mIt, mItB, mR1, mR2, mR1c, mZ, mZB, mYes, mkArgs, outs, itemsOf, isO, listM, tupleM, lenM, intM, subM_i, ltM_i, leM_i, gtM_i, geM_i, addM, Option.bind_some, Option.bind_none, Option.map_some, Option.map_none, List.length_cons, List.length_nil, List.getElem?_cons_zero, List.getElem?_cons_succ, List.set_cons_zero, List.set_cons_succ, List.cons_append, List.nil_append, List.append_nil, List.replicate, if_true, if_false, Nat.reduceAdd, Nat.reduceSub, Nat.reduceLeDiff, Nat.reduceEqDiff, reduceIte, Bool.false_eq_true, reduceCtorEq, Bool.not_true, Bool.not_false, decide_true, decide_false, id, ea, eb, div_ok (i := c) (j := 12) (by decide) (by decide), es]
    rfl
  · have hp := ha.pos
    have hs : a.length = a.cps.toList.length := by simp [Str.length]
    have hl : (⟨(a.cps.toList.take 1).toArray⟩ : Str).length = 1 := by
      simp [Str.length]
      have : 1 ≤ a.cps.size := hp
      omega
    exact ⟨by omega, by omega, fun c hc => ha.low c (List.mem_of_mem_take (by simpa using hc))⟩
end PL

namespace PL
open PySem PySem.Spec PyProof.Rows L2
open Wd
theorem cell_fn (ns : List Int) {i : Int} (h0 : 0 ≤ i) : ∃ c, cell_at_l_m [.b (ns.map .int), .d (.int i)] = .ret (.int c) [] := by
  by_cases h : i < ((ns.map PyData.int).length : Int)
  · have hl : i.toNat < ns.length := by rw [List.length_map] at h; omega
    refine ⟨ns[i.toNat], ?_⟩
    have hg : (ns.map PyData.int)[i.toNat]? = some (.int ns[i.toNat]) := by rw [List.getElem?_map, List.getElem?_eq_getElem hl]; rfl
    have e := atI_nat hg
    rw [show ((i.toNat : Nat) : Int) = i by omega] at e
    have e2 : ixM (.list (ns.map .int)) (.int i) = some (.int ns[i.toNat]) := e
    simp only [cell_at_l_m, cell_at_l_b, runF, sSeq, sIf, sRet, sAsg, sNew, sApp, sSkip_ap, sFor, sForZ, mCall, mCons, mNil, mV, mVA, mC, mBin, mUn, mTest, mAndT, mOrT, mNotT, mAnd, mOr, mNot, mBl, bl?, mIf, mTup, mLst, mSl, mSome, mNo, mComp, mIt, mItB, mR1, mR2, mR1c, mZ, mZB, mYes, mkArgs, outs, itemsOf, isO, listM, tupleM, lenM, intM, subM_i, ltM_i, leM_i, gtM_i, geM_i, addM, Option.bind_some, Option.bind_none, Option.map_some, Option.map_none, List.length_cons, List.length_nil, List.getElem?_cons_zero, List.getElem?_cons_succ, List.set_cons_zero, List.set_cons_succ, List.cons_append, List.nil_append, List.append_nil, List.replicate, if_true, if_false, Nat.reduceAdd, Nat.reduceSub, Nat.reduceLeDiff, Nat.reduceEqDiff, reduceIte, Bool.false_eq_true, reduceCtorEq, Bool.not_true, Bool.not_false, decide_true, decide_false, id, e2, decide_eq_true h]
  · refine ⟨0, ?_⟩
    simp only [cell_at_l_m, cell_at_l_b, runF, sSeq, sIf, sRet, sAsg, sNew, sApp, sSkip_ap, sFor, sForZ, mCall, mCons, mNil, mV, mVA, mC, mBin, mUn, mTest, mAndT, mOrT, mNotT, mAnd, mOr, mNot, mBl, bl?, mIf, mTup, mLst, mSl, mSome, mNo, mComp, mIt, mItB, mR1, mR2, mR1c, mZ, mZB, mYes, mkArgs, outs, itemsOf, isO, listM, tupleM, lenM, intM, subM_i, ltM_i, leM_i, gtM_i, geM_i, addM, Option.bind_some, Option.bind_none, Option.map_some, Option.map_none, List.length_cons, List.length_nil, List.getElem?_cons_zero, List.getElem?_cons_succ, List.set_cons_zero, List.set_cons_succ, List.cons_append, List.nil_append, List.append_nil, List.replicate, if_true, if_false, Nat.reduceAdd, Nat.reduceSub, Nat.reduceLeDiff, Nat.reduceEqDiff, reduceIte, Bool.false_eq_true, reduceCtorEq, Bool.not_true, Bool.not_false, decide_true, decide_false, id, decide_eq_false h]
inductive TmOk (P : Str → Prop) : Nat → Wd → Prop
  | var {d : Nat} {n : Int} : 0 ≤ n → n < 1000 → TmOk P d (.var n)
  | fn {d : Nat} {x : Str} {ps : List Wd} : P x → ps.length ≤ 3 → (∀ p ∈ ps, TmOk P d p) → TmOk P (d + 1) (.fn x ps)
inductive FmOk (P : Str → Prop) : Nat → Wd → Prop
  | no {d : Nat} : FmOk P d .no
  | same {d : Nat} {a b : Wd} : TmOk P 2 a → TmOk P 1 b → FmOk P d (.same a b)
  | rel {d : Nat} {x : Str} {ps : List Wd} : P x → ps.length ≤ 3 → (∀ p ∈ ps, TmOk P 2 p) → FmOk P d (.rel x ps)
  | iff {d : Nat} {a b : Wd} : FmOk P d a → FmOk P d b → FmOk P (d + 1) (.iff a b)
  | all {d : Nat} {a : Wd} : FmOk P d a → FmOk P (d + 1) (.all a)
section
variable {P : Str → Prop}
theorem TmOk.mono {d e : Nat} {w : Wd} (h : TmOk P d w) (hd : d ≤ e) : TmOk P e w := by
  induction h generalizing e with
  | var h1 h2 => exact .var h1 h2
  | fn h1 h2 _ ih => match e, hd with | e + 1, hd => exact .fn h1 h2 fun p hp => ih p hp (by omega)
theorem TmOk.lay {d : Nat} {w : Wd} (h : TmOk P d w) : w.lay ≤ d + 1 := by
  induction h with
  | var _ _ => simp [Wd.lay]
  | fn _ _ _ ih => rw [Wd.lay]; have := lays_le ih; omega
theorem FmOk.lay {d : Nat} {w : Wd} (h : FmOk P d w) : w.lay ≤ d + 4 := by
  induction h with
  | no => simp [Wd.lay]
  | same h1 h2 => rw [Wd.lay]; have := h1.lay; have := h2.lay; omega
  | rel _ _ h => rw [Wd.lay]; have := lays_le (n := 3) fun w hw => (h w hw).lay; omega
  | iff _ _ h1 h2 => rw [Wd.lay]; omega
  | all _ h => rw [Wd.lay]; omega
variable {x0 x1 x2 : Str} (h0 : P x0) (h1 : P x1) (h2 : P x2)
include h0 h1 h2
end
end PL

namespace PL
open PySem PySem.Spec PyProof.Rows L2
open Wd
theorem FmOk.mono {P : Str → Prop} {d e : Nat} {w : Wd} (h : FmOk P d w) (hd : d ≤ e) : FmOk P e w := by
  induction h generalizing e with
  | no => exact .no
  | same h1 h2 => exact .same h1 h2
  | rel h1 h2 h3 => exact .rel h1 h2 h3
  | iff _ _ ih1 ih2 => match e, hd with | e + 1, hd => exact .iff (ih1 (by omega)) (ih2 (by omega))
  | all _ ih => match e, hd with | e + 1, hd => exact .all (ih (by omega))
section
variable {P : Str → Prop} {x0 x1 x2 : Str} (h0 : P x0) (h1 : P x1) (h2 : P x2)
include h0 h1 h2
end
end PL

namespace PL
open PySem PySem.Spec PyProof.Rows L2
open Wd
/-! ### _law_like of a thing and itself -/
inductive Lk : Nat → PyData → Prop
  | int {n : Nat} {i : Int} : Lk (n + 1) (.int i)
  | str {n : Nat} {x : Str} : PyData.strOk x = true → Lk (n + 1) (.str x)
  | tup {n : Nat} {ds : List PyData} : (∀ d ∈ ds, Lk n d) → Lk (n + 1) (.tuple ds)
theorem Lk.mono {n m : Nat} {d : PyData} (h : Lk n d) (hm : n ≤ m) : Lk m d := by
  induction h generalizing m with
  | int => match m, hm with | m + 1, _ => exact .int
  | str h => match m, hm with | m + 1, _ => exact .str h
  | tup _ ih => match m, hm with | m + 1, hm => exact .tup fun d hd => ih d hd (by omega)
theorem forZ_same {i j : Nat} {body : MS} (I : Rho → Prop) : ∀ (ds : List PyData) (ρ : Rho), I ρ → (∀ d ∈ ds, ∀ ρ, I ρ → (isO ρ[i]? || isO ρ[j]?) = false ∧ ∃ ρ', body ((ρ.set i (.d d)).set j (.d d)) = .nx ρ' ∧ I ρ') → ∃ ρ', forZ i j body ds ds ρ = .nx ρ' ∧ I ρ'
  | [], ρ, hI, _ => ⟨ρ, rfl, hI⟩
  | d :: ds, ρ, hI, h => by
    obtain ⟨ho, ρ', hb, hI'⟩ := h d (.head _) ρ hI
    obtain ⟨ρ2, h2, hI2⟩ := forZ_same I ds ρ' hI' fun d hd => h d (.tail _ hd)
    refine ⟨ρ2, ?_, hI2⟩
    rw [forZ, ho, hb]
    exact h2
theorem like_fn : ∀ (n : Nat) (d : PyData), Lk n d → like_l_m n [.d d, .d d] = .ret (.bool true) []
  | 0, d, h => by cases h
  | n + 1, d, h => by
    cases h with
    | int => simp only [like_l_m, like_l_b, runF, sSeq, sIf, sRet, sAsg, sNew, sApp, sSkip_ap, sFor, sForZ, mCall, mCons, mNil, mV, mVA, mC, mBin, mUn, mTest, mAndT, mOrT, mNotT, mAnd, mOr, mNot, mBl, bl?, mIf, mTup, mLst, mSl, mSome, mNo, mComp, mIt, mItB, mR1, mR2, mR1c, mZ, mZB, mYes, mkArgs, outs, itemsOf, isO, listM, tupleM, lenM, intM, subM_i, ltM_i, leM_i, gtM_i, geM_i, addM, Option.bind_some, Option.bind_none, Option.map_some, Option.map_none, List.length_cons, List.length_nil, List.getElem?_cons_zero, List.getElem?_cons_succ, List.set_cons_zero, List.set_cons_succ, List.cons_append, List.nil_append, List.append_nil, List.replicate, if_true, if_false, Nat.reduceAdd, Nat.reduceSub, Nat.reduceLeDiff, Nat.reduceEqDiff, reduceIte, Bool.false_eq_true, reduceCtorEq, Bool.not_true, Bool.not_false, decide_true, decide_false, id, isiM, tyName, eqM_int, decide_true, show kitB "int" "tuple" = some false from by decide +kernel, show kitB "int" "str" = some false from by decide +kernel, show kitB "int" "int" = some true from by decide +kernel, show kitB "int" "bool" = some false from by decide +kernel]
    | str hx => simp only [like_l_m, like_l_b, runF, sSeq, sIf, sRet, sAsg, sNew, sApp, sSkip_ap, sFor, sForZ, mCall, mCons, mNil, mV, mVA, mC, mBin, mUn, mTest, mAndT, mOrT, mNotT, mAnd, mOr, mNot, mBl, bl?, mIf, mTup, mLst, mSl, mSome, mNo, mComp, mIt, mItB, mR1, mR2, mR1c, mZ, mZB, mYes, mkArgs, outs, itemsOf, isO, listM, tupleM, lenM, intM, subM_i, ltM_i, leM_i, gtM_i, geM_i, addM, Option.bind_some, Option.bind_none, Option.map_some, Option.map_none, List.length_cons, List.length_nil, List.getElem?_cons_zero, List.getElem?_cons_succ, List.set_cons_zero, List.set_cons_succ, List.cons_append, List.nil_append, List.append_nil, List.replicate, if_true, if_false, Nat.reduceAdd, Nat.reduceSub, Nat.reduceLeDiff, Nat.reduceEqDiff, reduceIte, Bool.false_eq_true, reduceCtorEq, Bool.not_true, Bool.not_false, decide_true, decide_false, id, isiM, tyName, eqM_str hx hx, decide_true, show kitB "str" "tuple" = some false from by decide +kernel, show kitB "str" "str" = some true from by decide +kernel]
    | @tup _ ds hd =>
      have key := forZ_same (i := 2) (j := 3) (body := sIf (mNotT (mTest (mCall [true, true] (like_l_m n) (mCons (mV 2) (mCons (mV 3) mNil))))) (sRet (mC (.bool false))) sSkip)
        (fun ρ => ∃ a b, ρ = [.d (.tuple ds), .d (.tuple ds), a, b] ∧ isO (some a) = false ∧ isO (some b) = false) ds [.d (.tuple ds), .d (.tuple ds), .nil, .nil] ⟨_, _, rfl, rfl, rfl⟩ (by
          rintro d hd' ρ ⟨a, b, rfl, ha, hb⟩
          refine ⟨by simp [ha, hb], [.d (.tuple ds), .d (.tuple ds), .d d, .d d], ?_, _, _, rfl, rfl, rfl⟩
          simp only [runF, sSeq, sIf, sRet, sAsg, sNew, sApp, sSkip_ap, sFor, sForZ, mCall, mCons, mNil, mV, mVA, mC, mBin, mUn, mTest, mAndT, mOrT, mNotT, mAnd, mOr, mNot, mBl, bl?, mIf, mTup, mLst, mSl, mSome, mNo, mComp, mIt, mItB, mR1, mR2, mR1c, mZ, mZB, mYes, mkArgs, outs, itemsOf, isO, listM, tupleM, lenM, intM, subM_i, ltM_i, leM_i, gtM_i, geM_i, addM, Option.bind_some, Option.bind_none, Option.map_some, Option.map_none, List.length_cons, List.length_nil, List.getElem?_cons_zero, List.getElem?_cons_succ, List.set_cons_zero, List.set_cons_succ, List.cons_append, List.nil_append, List.append_nil, List.replicate, if_true, if_false, Nat.reduceAdd, Nat.reduceSub, Nat.reduceLeDiff, Nat.reduceEqDiff, reduceIte, Bool.false_eq_true, reduceCtorEq, Bool.not_true, Bool.not_false, decide_true, decide_false, id, like_fn n d (hd d hd')])
      obtain ⟨ρ', e, a, b, rfl, ha, hb⟩ := key
      simp only [like_l_m, like_l_b, runF, sSeq, sIf, sRet, sAsg, sNew, sApp, sSkip_ap, sFor, sForZ, mCall, mCons, mNil, mV, mVA, mC, mBin, mUn, mTest, mAndT, mOrT, mNotT, mAnd, mOr, mNot, mBl, bl?, mIf, mTup, mLst, mSl, mSome, mNo, mComp, mIt, mItB, mR1, mR2, mR1c, mZ, mZB, mYes, mkArgs, outs, itemsOf, isO, listM, tupleM, lenM, intM, subM_i, ltM_i, leM_i, gtM_i, geM_i, addM, Option.bind_some, Option.bind_none, Option.map_some, Option.map_none, List.length_cons, List.length_nil, List.getElem?_cons_zero, List.getElem?_cons_succ, List.set_cons_zero, List.set_cons_succ, List.cons_append, List.nil_append, List.append_nil, List.replicate, if_true, if_false, Nat.reduceAdd, Nat.reduceSub, Nat.reduceLeDiff, Nat.reduceEqDiff, reduceIte, Bool.false_eq_true, reduceCtorEq, Bool.not_true, Bool.not_false, decide_true, decide_false, id, isiM, tyName, show kitB "tuple" "tuple" = some true from by decide +kernel, neM_int, decide_true, and_self, e]
/-! a word is like itself -/
theorem lk_datas {n : Nat} {ws : List Wd} (h : ∀ w ∈ ws, Lk n w.data) : ∀ d ∈ datas ws, Lk n d := by
  rw [datas_map]
  intro d hd
  obtain ⟨w, hw, rfl⟩ := List.mem_map.mp hd
  exact h w hw
mutual
def names : Wd → List Str
  | .var _ => []
  | .no => []
  | .fn x ps => x :: namess ps
  | .rel x ps => x :: namess ps
  | .same a b => names a ++ names b
  | .iff a b => names a ++ names b
  | .all a => names a
def namess : List Wd → List Str
  | [] => []
  | w :: ws => names w ++ namess ws
end
theorem names_sub {ws : List Wd} {w : Wd} (h : w ∈ ws) : ∀ x ∈ names w, x ∈ namess ws := by
  induction h with
  | head _ => intro x hx; rw [namess]; exact List.mem_append.mpr (.inl hx)
  | tail _ _ ih => intro x hx; rw [namess]; exact List.mem_append.mpr (.inr (ih x hx))
theorem word_lk : ∀ (n : Nat) (w : Wd), w.lay ≤ n → (∀ x ∈ names w, PyData.strOk x = true) → Lk (2 * n) w.data
  | 0, w, h, _ => by have := w.lay_pos; omega
  | n + 1, w, h, hn => by
    have ez : 2 * (n + 1) = 2 * n + 1 + 1 := by omega
    rw [ez]
    have kid : ∀ k ∈ w.kids, (∀ x ∈ names k, PyData.strOk x = true) → Lk (2 * n) k.data := fun k hk hx => word_lk n k (kids_le h hk) hx
    cases w with
    | var i => rw [data]; exact .tup (by simp; exact ⟨.str (by decide +kernel), .int⟩)
    | no => rw [data]; exact .tup (by simp; exact .str (by decide +kernel))
    | fn x ps =>
      rw [names] at hn
      rw [data]
      refine .tup ?_
      simp
      exact ⟨.str (by decide +kernel), .str (hn x (.head _)), .tup (lk_datas fun k hk => kid k hk fun y hy => hn y (.tail _ (names_sub hk y hy)))⟩
    | rel x ps =>
      rw [names] at hn
      rw [data]
      refine .tup ?_
      simp
      exact ⟨.str (by decide +kernel), .str (hn x (.head _)), .tup (lk_datas fun k hk => kid k hk fun y hy => hn y (.tail _ (names_sub hk y hy)))⟩
    | same a b =>
      rw [names] at hn
      rw [data]
      refine .tup ?_
      simp
      exact ⟨.str (by decide +kernel), (kid a (by simp [kids]) fun y hy => hn y (List.mem_append.mpr (.inl hy))).mono (by omega), (kid b (by simp [kids]) fun y hy => hn y (List.mem_append.mpr (.inr hy))).mono (by omega)⟩
    | iff a b =>
      rw [names] at hn
      rw [data]
      refine .tup ?_
      simp
      exact ⟨.str (by decide +kernel), (kid a (by simp [kids]) fun y hy => hn y (List.mem_append.mpr (.inl hy))).mono (by omega), (kid b (by simp [kids]) fun y hy => hn y (List.mem_append.mpr (.inr hy))).mono (by omega)⟩
    | all a =>
      rw [names] at hn
      rw [data]
      refine .tup ?_
      simp
      exact ⟨.str (by decide +kernel), (kid a (by simp [kids]) hn).mono (by omega)⟩
theorem namess_all {ws : List Wd} {P : Str → Prop} (h : ∀ w ∈ ws, ∀ x ∈ names w, P x) : ∀ x ∈ namess ws, P x := by
  induction ws with
  | nil => intro x hx; simp [namess] at hx
  | cons w ws ih =>
    intro x hx
    rw [namess] at hx
    rcases List.mem_append.mp hx with hx | hx
    · exact h w (.head _) x hx
    · exact ih (fun u hu => h u (.tail _ hu)) x hx
theorem TmOk.names {P : Str → Prop} {d : Nat} {w : Wd} (h : TmOk P d w) : ∀ x ∈ PL.names w, P x := by
  induction h with
  | var _ _ => intro x hx; simp [PL.names] at hx
  | fn hx _ _ ih =>
    intro y hy
    rw [PL.names] at hy
    cases hy with
    | head => exact hx
    | tail _ hy => exact namess_all ih y hy
theorem FmOk.names {P : Str → Prop} {d : Nat} {w : Wd} (h : FmOk P d w) : ∀ x ∈ PL.names w, P x := by
  induction h with
  | no => intro x hx; simp [PL.names] at hx
  | same h1 h2 =>
    intro y hy
    rw [PL.names] at hy
    rcases List.mem_append.mp hy with hy | hy
    · exact h1.names y hy
    · exact h2.names y hy
  | rel hx _ hp =>
    intro y hy
    rw [PL.names] at hy
    cases hy with
    | head => exact hx
    | tail _ hy => exact namess_all (fun w hw => (hp w hw).names) y hy
  | iff _ _ h1 h2 =>
    intro y hy
    rw [PL.names] at hy
    rcases List.mem_append.mp hy with hy | hy
    · exact h1 y hy
    · exact h2 y hy
  | all _ h => intro y hy; rw [PL.names] at hy; exact h y hy
/-! names stand under a map of vars -/
/-! layers under a map of vars -/
end PL

namespace PL
open PySem PySem.Spec PyProof.Rows L2
open Wd
/-! ### what the words' functions do -/
/-! a change of free vars -/
/-! put -/
end PL

namespace PL
open PySem PySem.Spec PyProof.Rows L2
open Wd
/-! ### searches and sums over lists -/
/-! ### the numbers of the vars, less the depth -/
theorem TmOk.any {P : Str → Prop} {m : Nat} {w : Wd} (h : TmOk P m w) : TmOk (fun _ => True) m w := by
  induction h with
  | var h1 h2 => exact .var h1 h2
  | fn _ h2 _ ih => exact .fn trivial h2 ih
end PL

namespace PL
open PySem PySem.Spec PyProof.Rows L2
open Wd
end PL

namespace PL
open PySem PySem.Spec PyProof.Rows L2
open Wd
end PL

namespace PL
open PySem PySem.Spec PyProof.Rows L2
open Wd
/-! ### knots -/
mutual
def kn : Wd → Nat
  | .var _ => 1
  | .no => 1
  | .fn _ ps => kns ps + 1
  | .rel _ ps => kns ps + 1
  | .same a b => kn a + kn b + 1
  | .iff a b => kn a + kn b + 1
  | .all a => kn a + 1
def kns : List Wd → Nat
  | [] => 0
  | w :: ws => kn w + kns ws
end
theorem kn_kids (w : Wd) : kn w = kns w.kids + 1 := by cases w <;> simp [kn, kns, kids]
theorem kn_pos (w : Wd) : 1 ≤ kn w := by rw [kn_kids]; omega
end PL

namespace PL
open PySem PySem.Spec PyProof.Rows L2
open Wd
/-! ### what is true -/
section
variable {sz s : Int}
end
/-! ### what the law's functions reckon -/
theorem ix1_iff (a b : Wd) : ixM (Wd.iff a b).data (.int 1) = some a.data := rfl
theorem ix2_iff (a b : Wd) : ixM (Wd.iff a b).data (.int 2) = some b.data := rfl
section
variable {sz s : Int} (hz : 0 < sz) (th : List Int)
include hz
end
end PL

namespace PL
open PySem PySem.Spec PyProof.Rows L2
open Wd
/-! ### there and back -/
end PL

namespace PL
open PySem PySem.Spec PyProof.Rows L2
open Wd
/-! ### words as data that is compared -/
/-- all its names are signs -/
def Ok (w : Wd) : Prop := ∀ x ∈ names w, PyData.strOk x = true
theorem str_lit_ok : PyData.strOk "var" = true ∧ PyData.strOk "no" = true ∧ PyData.strOk "fun" = true ∧ PyData.strOk "rel" = true ∧ PyData.strOk "same" = true ∧ PyData.strOk "if" = true ∧ PyData.strOk "all" = true := by decide +kernel
mutual
theorem word_lay0 : ∀ (w : Wd), Ok w → w.data.canLay0 = true
  | .var n, h => by simp [data, PyData.canLay0, PyData.canLayAll0, str_lit_ok]
  | .no, h => by simp [data, PyData.canLay0, PyData.canLayAll0, str_lit_ok]
  | .fn x ps, h => by
    have h1 : PyData.strOk x = true := h x (by rw [names]; exact List.mem_cons_self)
    have h2 := words_lay0 ps fun y hy => h y (by rw [names]; exact List.mem_cons_of_mem _ hy)
    simp [data, PyData.canLay0, PyData.canLayAll0, str_lit_ok, h1, h2]
  | .rel x ps, h => by
    have h1 : PyData.strOk x = true := h x (by rw [names]; exact List.mem_cons_self)
    have h2 := words_lay0 ps fun y hy => h y (by rw [names]; exact List.mem_cons_of_mem _ hy)
    simp [data, PyData.canLay0, PyData.canLayAll0, str_lit_ok, h1, h2]
  | .same a b, h => by
    have h1 := word_lay0 a fun y hy => h y (by rw [names]; exact List.mem_append.mpr (.inl hy))
    have h2 := word_lay0 b fun y hy => h y (by rw [names]; exact List.mem_append.mpr (.inr hy))
    simp [data, PyData.canLay0, PyData.canLayAll0, str_lit_ok, h1, h2]
  | .iff a b, h => by
    have h1 := word_lay0 a fun y hy => h y (by rw [names]; exact List.mem_append.mpr (.inl hy))
    have h2 := word_lay0 b fun y hy => h y (by rw [names]; exact List.mem_append.mpr (.inr hy))
    simp [data, PyData.canLay0, PyData.canLayAll0, str_lit_ok, h1, h2]
  | .all a, h => by
    have h1 := word_lay0 a fun y hy => h y (by rw [names]; exact hy)
    simp [data, PyData.canLay0, PyData.canLayAll0, str_lit_ok, h1]
theorem words_lay0 : ∀ (ws : List Wd), (∀ x ∈ namess ws, PyData.strOk x = true) → PyData.canLayAll0 (datas ws) = true
  | [], h => rfl
  | w :: ws, h => by
    have h1 := word_lay0 w fun y hy => h y (by rw [namess]; exact List.mem_append.mpr (.inl hy))
    have h2 := words_lay0 ws fun y hy => h y (by rw [namess]; exact List.mem_append.mpr (.inr hy))
    simp [datas, PyData.canLayAll0, h1, h2]
end
mutual
theorem word_depth : ∀ (w : Wd), w.data.depth ≤ 2 * w.lay
  | .var n => by simp [data, PyData.depth, PyData.depthAll, lay]
  | .no => by simp [data, PyData.depth, PyData.depthAll, lay]
  | .fn x ps => by have := words_depth ps; simp [data, PyData.depth, PyData.depthAll, lay]; omega
  | .rel x ps => by have := words_depth ps; simp [data, PyData.depth, PyData.depthAll, lay]; omega
  | .same a b => by have := word_depth a; have := word_depth b; simp [data, PyData.depth, PyData.depthAll, lay]; omega
  | .iff a b => by have := word_depth a; have := word_depth b; simp [data, PyData.depth, PyData.depthAll, lay]; omega
  | .all a => by have := word_depth a; simp [data, PyData.depth, PyData.depthAll, lay]; omega
theorem words_depth : ∀ (ws : List Wd), PyData.depthAll (datas ws) ≤ 2 * lays ws
  | [] => by simp [datas, PyData.depthAll]
  | w :: ws => by have := word_depth w; have := words_depth ws; simp [datas, PyData.depthAll, lays]; omega
end
theorem list_lay0 {ws : List Wd} (h : ∀ w ∈ ws, Ok w) : (PyData.list (datas ws)).canLay0 = true := by
  rw [PyData.canLay0]
  exact words_lay0 ws (namess_all h)
/-- equal, as the program weighs it -/
def weq (w u : Wd) : Bool := PyData.eqv w.data u.data
theorem weq_refl {w : Wd} (h : Ok w) : weq w w = true := SeqAt.eqv_refl w.data (word_lay0 w h)
theorem any_datas (p : PyData → Bool) : ∀ ws : List Wd, (datas ws).any p = ws.any fun w => p w.data
  | [] => rfl
  | w :: ws => by rw [datas, List.any_cons, List.any_cons, any_datas p ws]
theorem inM_words (neg : Bool) {w : Wd} {ws : List Wd} (h : Ok w) (hs : ∀ u ∈ ws, Ok u) (hl : w.lay ≤ 95) : inM neg w.data (.list (datas ws)) = some (.bool (xor neg (ws.any fun u => weq u w))) := by
  have hd := word_depth w
  simp only [inM, itemsOf, Option.bind_some]
  rw [if_pos ⟨word_lay0 w h, list_lay0 hs, by omega⟩, any_datas]
  rfl
/-- the first place of an equal one -/
def wix (w : Wd) : List Wd → Option Nat
  | [] => none
  | u :: us => if weq u w = true then some 0 else (wix w us).map (· + 1)
theorem firstIx_datas (w : Wd) : ∀ ws, firstIx w.data (datas ws) = wix w ws
  | [] => rfl
  | u :: us => by rw [datas, firstIx, wix, firstIx_datas w us]; rfl
theorem wix_some {w : Wd} : ∀ {ws : List Wd}, (ws.any fun u => weq u w) = true → ∃ j, wix w ws = some j ∧ j < ws.length
  | [], h => by cases h
  | u :: us, h => by
    by_cases e : weq u w = true
    · exact ⟨0, by rw [wix, if_pos e], by simp⟩
    · rw [List.any_cons, Bool.or_eq_true] at h
      obtain ⟨j, h1, h2⟩ := wix_some (h.resolve_left e)
      exact ⟨j + 1, by rw [wix, if_neg e, h1]; rfl, by simp; omega⟩
theorem lays_mem {ws : List Wd} {n : Nat} (h : ∀ w ∈ ws, w.lay ≤ n) : PyData.depthAll (datas ws) ≤ 2 * n := Nat.le_trans (words_depth ws) (by have := lays_le h; omega)
theorem index_words {w : Wd} {ws : List Wd} {j : Nat} (h : Ok w) (hs : ∀ u ∈ ws, Ok u) (hl : w.lay ≤ 31) (hls : ∀ u ∈ ws, u.lay ≤ 31) (hj : wix w ws = some j) : indexM (.list (datas ws)) w.data = some (.int (j : Int)) := by
  have h1 : SeqAt.shaped (.list (datas ws)) = true := by
    unfold SeqAt.shaped
    rw [list_lay0 hs, PyData.depth]
    have := lays_mem hls
    simp
    omega
  have h2 : SeqAt.shaped w.data = true := by
    unfold SeqAt.shaped
    rw [word_lay0 w h]
    have := word_depth w
    simp
    omega
  simp only [indexM]
  rw [if_pos ⟨h1, h2⟩, firstIx_datas, hj]
  rfl
end PL

namespace PL
open PySem PySem.Spec PyProof.Rows L2
open Wd
theorem okA_d (d : PyData) : okA [.d d] = true := by simp [okA, oix, rix]
theorem okA_do (d : PyData) (i : Nat) : okA [.d d, .o i] = true := by simp [okA, oix, rix]
theorem nt_no (w : Wd) : neM (.str w.tag) (.str "no") = some (.bool (!w.isNo)) := by cases w <;> kernel_rfl
/-! ### atoms -/
def atomsL : Wd → List Wd → List Wd
  | .iff a b, L => atomsL b (atomsL a L)
  | .no, L => L
  | w, L => if (L.any fun u => weq u w) = true then L else L ++ [w]
theorem atomsL_at {w : Wd} (h1 : w.isIff = false) (h2 : w.isNo = false) (L : List Wd) : atomsL w L = if (L.any fun u => weq u w) = true then L else L ++ [w] := by
  cases w with
  | iff a b => cases h1
  | no => cases h2
  | _ => rfl
/-- what holds of the atoms of w -/
theorem atomsL_all {P : Wd → Prop} : ∀ (w : Wd) (L : List Wd), (∀ u ∈ L, P u) → (∀ u : Wd, Ok w → P w → True) → P w → (∀ a b, P (.iff a b) → P a ∧ P b) → ∀ u ∈ atomsL w L, P u
  | .iff a b, L, hL, _, hw, hk => by
    rw [atomsL]
    obtain ⟨ha, hb⟩ := hk a b hw
    exact atomsL_all b _ (atomsL_all a L hL (fun _ _ _ => trivial) ha hk) (fun _ _ _ => trivial) hb hk
  | .no, L, hL, _, _, _ => hL
  | .var n, L, hL, _, hw, _ => by
    rw [atomsL_at rfl rfl]; split
    · exact hL
    · intro u hu; rcases List.mem_append.mp hu with h | h
      · exact hL u h
      · rw [List.mem_singleton.mp h]; exact hw
  | .fn x ps, L, hL, _, hw, _ => by
    rw [atomsL_at rfl rfl]; split
    · exact hL
    · intro u hu; rcases List.mem_append.mp hu with h | h
      · exact hL u h
      · rw [List.mem_singleton.mp h]; exact hw
  | .rel x ps, L, hL, _, hw, _ => by
    rw [atomsL_at rfl rfl]; split
    · exact hL
    · intro u hu; rcases List.mem_append.mp hu with h | h
      · exact hL u h
      · rw [List.mem_singleton.mp h]; exact hw
  | .same a b, L, hL, _, hw, _ => by
    rw [atomsL_at rfl rfl]; split
    · exact hL
    · intro u hu; rcases List.mem_append.mp hu with h | h
      · exact hL u h
      · rw [List.mem_singleton.mp h]; exact hw
  | .all a, L, hL, _, hw, _ => by
    rw [atomsL_at rfl rfl]; split
    · exact hL
    · intro u hu; rcases List.mem_append.mp hu with h | h
      · exact hL u h
      · rw [List.mem_singleton.mp h]; exact hw
/-- small and of signs -/
def Sm (n : Nat) (w : Wd) : Prop := Ok w ∧ w.lay ≤ n
theorem Sm.iff {n : Nat} {a b : Wd} (h : Sm n (.iff a b)) : Sm n a ∧ Sm n b := by
  obtain ⟨h1, h2⟩ := h
  rw [lay] at h2
  exact ⟨⟨fun y hy => h1 y (by rw [names]; exact List.mem_append.mpr (.inl hy)), by omega⟩, ⟨fun y hy => h1 y (by rw [names]; exact List.mem_append.mpr (.inr hy)), by omega⟩⟩
theorem atomsL_sm {n : Nat} {w : Wd} {L : List Wd} (hL : ∀ u ∈ L, Sm n u) (hw : Sm n w) : ∀ u ∈ atomsL w L, Sm n u := atomsL_all w L hL (fun _ _ _ => trivial) hw fun a b h => h.iff
theorem atomsL_len : ∀ (w : Wd) (L : List Wd), (atomsL w L).length ≤ L.length + kn w
  | .iff a b, L => by rw [atomsL, kn]; have := atomsL_len b (atomsL a L); have := atomsL_len a L; omega
  | .no, L => by rw [atomsL]; omega
  | .var n, L => by rw [atomsL_at rfl rfl, kn]; split <;> simp
  | .fn x ps, L => by
    rw [atomsL_at rfl rfl, kn]
    split
    · omega
    · rw [List.length_append, List.length_singleton]; omega
  | .rel x ps, L => by
    rw [atomsL_at rfl rfl, kn]
    split
    · omega
    · rw [List.length_append, List.length_singleton]; omega
  | .same a b, L => by
    rw [atomsL_at rfl rfl, kn]
    split
    · omega
    · rw [List.length_append, List.length_singleton]; omega
  | .all a, L => by
    rw [atomsL_at rfl rfl, kn]
    split
    · omega
    · rw [List.length_append, List.length_singleton]; omega
theorem iff_eq {w : Wd} (h : w.isIff = true) : ∃ a b, w = .iff a b := by cases w <;> first | exact ⟨_, _, rfl⟩ | cases h
theorem gone_fn : ∀ (n : Nat) (w : Wd) (L : List Wd), w.lay ≤ n → Sm 90 w → (∀ u ∈ L, Sm 90 u) → L.length + kn w ≤ 2 ^ 24 → gone_through_m n [.d w.data, .o (.lst (datas L))] = .ret .none [.lst (datas (atomsL w L))]
  | 0, w, L, h, _, _, _ => by have := w.lay_pos; omega
  | n + 1, w, L, h, hw, hL, hz => by
    cases hi : w.isIff with
    | true =>
      obtain ⟨a, b, rfl⟩ := iff_eq hi
      rw [lay] at h
      rw [kn] at hz
      have hla := atomsL_len a L
      have ea := gone_fn n a L (by omega) hw.iff.1 hL (by omega)
      have eb := gone_fn n b (atomsL a L) (by omega) hw.iff.2 (atomsL_sm hL hw.iff.1) (by omega)
      rw [gone_through_m]
      simp only [runF_fin (np := 2) (args := [.d (Wd.iff a b).data, .o (.lst (datas L))]) rfl]
      have e : gone_through_b (gone_through_m n) [.d (Wd.iff a b).data, .o (.lst (datas L))] = .nx [.d (Wd.iff a b).data, .o (.lst (datas (atomsL b (atomsL a L))))] := by
        simp only [runF, sSeq, sIf, sRet, sAsg, sNew, sApp, sSkip_ap, sFor, sForZ, mCall, mCons, mNil, mV, mVA, mC, mBin, mUn, mTest, mAndT, mOrT, mNotT, mAnd, mOr, mNot, mBl, bl?, mIf, mTup, mLst, mSl, mSome, mNo, mComp, mIt, mItB, mR1, mR2, mR1c, mZ, mZB, mYes, mkArgs, outs, itemsOf, isO, listM, tupleM, lenM, intM, subM_i, ltM_i, leM_i, gtM_i, geM_i, addM, Option.bind_some, Option.bind_none, Option.map_some, Option.map_none, List.length_cons, List.length_nil, List.getElem?_cons_zero, List.getElem?_cons_succ, List.set_cons_zero, List.set_cons_succ, List.cons_append, List.nil_append, List.append_nil, List.replicate, if_true, if_false, Nat.reduceAdd, Nat.reduceSub, Nat.reduceLeDiff, Nat.reduceEqDiff, reduceIte, Bool.false_eq_true, reduceCtorEq, Bool.not_true, Bool.not_false, decide_true, decide_false, id, xE, xCall, xNil, xCons, xSlot, xTup, xUn, xBin, xOut, xFin, slsOf, slOf, dsOf, putB, xT, xTest, xAndT, xOrT, xNotT, sAsgX, sRetX, sDoX, sIfX, sAppX, sExc, sTry, sHds, noEx, sTryAs, wipeO, mIsE, sFz, sPop, negM, mChain, List.nodup_nil, List.all_nil, Bool.and_true, Bool.true_and, gone_through_b, ix0, tg_if, hi, ix1_iff, ix2_iff, okA_do, ea, eb]
      show fin _ (gone_through_b (gone_through_m n) [.d (Wd.iff a b).data, .o (.lst (datas L))]) = _
      rw [e, atomsL]
      rfl
    | false =>
      cases hn : w.isNo with
      | true =>
        have := isNo_eq hn
        subst this
        rw [gone_through_m]
        simp only [runF_fin (np := 2) (args := [.d Wd.no.data, .o (.lst (datas L))]) rfl]
        have e : gone_through_b (gone_through_m n) [.d Wd.no.data, .o (.lst (datas L))] = .nx [.d Wd.no.data, .o (.lst (datas L))] := by
          simp only [runF, sSeq, sIf, sRet, sAsg, sNew, sApp, sSkip_ap, sFor, sForZ, mCall, mCons, mNil, mV, mVA, mC, mBin, mUn, mTest, mAndT, mOrT, mNotT, mAnd, mOr, mNot, mBl, bl?, mIf, mTup, mLst, mSl, mSome, mNo, mComp, mIt, mItB, mR1, mR2, mR1c, mZ, mZB, mYes, mkArgs, outs, itemsOf, isO, listM, tupleM, lenM, intM, subM_i, ltM_i, leM_i, gtM_i, geM_i, addM, Option.bind_some, Option.bind_none, Option.map_some, Option.map_none, List.length_cons, List.length_nil, List.getElem?_cons_zero, List.getElem?_cons_succ, List.set_cons_zero, List.set_cons_succ, List.cons_append, List.nil_append, List.append_nil, List.replicate, if_true, if_false, Nat.reduceAdd, Nat.reduceSub, Nat.reduceLeDiff, Nat.reduceEqDiff, reduceIte, Bool.false_eq_true, reduceCtorEq, Bool.not_true, Bool.not_false, decide_true, decide_false, id, xE, xCall, xNil, xCons, xSlot, xTup, xUn, xBin, xOut, xFin, slsOf, slOf, dsOf, putB, xT, xTest, xAndT, xOrT, xNotT, sAsgX, sRetX, sDoX, sIfX, sAppX, sExc, sTry, sHds, noEx, sTryAs, wipeO, mIsE, sFz, sPop, negM, mChain, List.nodup_nil, List.all_nil, Bool.and_true, Bool.true_and, gone_through_b, ix0, tg_if, hi, nt_no, hn]
        show fin _ (gone_through_b (gone_through_m n) [.d Wd.no.data, .o (.lst (datas L))]) = _
        rw [e, atomsL]
        rfl
      | false =>
        have hin := inM_words true hw.1 (fun u hu => (hL u hu).1) (ws := L) (Nat.le_trans hw.2 (by decide))
        rw [atomsL_at hi hn, gone_through_m]
        simp only [runF_fin (np := 2) (args := [.d w.data, .o (.lst (datas L))]) rfl]
        have hkp := kn_pos w
        have e : gone_through_b (gone_through_m n) [.d w.data, .o (.lst (datas L))] = .nx [.d w.data, .o (.lst (datas (if (L.any fun u => weq u w) = true then L else L ++ [w])))] := by
          cases ha : L.any fun u => weq u w with
          | true =>
            rw [ha] at hin
            simp only [runF, sSeq, sIf, sRet, sAsg, sNew, sApp, sSkip_ap, sFor, sForZ, mCall, mCons, mNil, mV, mVA, mC, mBin, mUn, mTest, mAndT, mOrT, mNotT, mAnd, mOr, mNot, mBl, bl?, mIf, mTup, mLst, mSl, mSome, mNo, mComp, mIt, mItB, mR1, mR2, mR1c, mZ, mZB, mYes, mkArgs, outs, itemsOf, isO, listM, tupleM, lenM, intM, subM_i, ltM_i, leM_i, gtM_i, geM_i, addM, Option.bind_some, Option.bind_none, Option.map_some, Option.map_none, List.length_cons, List.length_nil, List.getElem?_cons_zero, List.getElem?_cons_succ, List.set_cons_zero, List.set_cons_succ, List.cons_append, List.nil_append, List.append_nil, List.replicate, if_true, if_false, Nat.reduceAdd, Nat.reduceSub, Nat.reduceLeDiff, Nat.reduceEqDiff, reduceIte, Bool.false_eq_true, reduceCtorEq, Bool.not_true, Bool.not_false, decide_true, decide_false, id, xE, xCall, xNil, xCons, xSlot, xTup, xUn, xBin, xOut, xFin, slsOf, slOf, dsOf, putB, xT, xTest, xAndT, xOrT, xNotT, sAsgX, sRetX, sDoX, sIfX, sAppX, sExc, sTry, sHds, noEx, sTryAs, wipeO, mIsE, sFz, sPop, negM, mChain, List.nodup_nil, List.all_nil, Bool.and_true, Bool.true_and, gone_through_b, ix0, tg_if, hi, nt_no, hn, hin, Bool.true_xor]
          | false =>
            rw [ha] at hin
            have hl : (datas L).length < sizeLine := by rw [datas_len, sizeLine_eq]; omega
            simp only [runF, sSeq, sIf, sRet, sAsg, sNew, sApp, sSkip_ap, sFor, sForZ, mCall, mCons, mNil, mV, mVA, mC, mBin, mUn, mTest, mAndT, mOrT, mNotT, mAnd, mOr, mNot, mBl, bl?, mIf, mTup, mLst, mSl, mSome, mNo, mComp, mIt, mItB, mR1, mR2, mR1c, mZ, mZB, mYes, mkArgs, outs, itemsOf, isO, listM, tupleM, lenM, intM, subM_i, ltM_i, leM_i, gtM_i, geM_i, addM, Option.bind_some, Option.bind_none, Option.map_some, Option.map_none, List.length_cons, List.length_nil, List.getElem?_cons_zero, List.getElem?_cons_succ, List.set_cons_zero, List.set_cons_succ, List.cons_append, List.nil_append, List.append_nil, List.replicate, if_true, if_false, Nat.reduceAdd, Nat.reduceSub, Nat.reduceLeDiff, Nat.reduceEqDiff, reduceIte, Bool.false_eq_true, reduceCtorEq, Bool.not_true, Bool.not_false, decide_true, decide_false, id, xE, xCall, xNil, xCons, xSlot, xTup, xUn, xBin, xOut, xFin, slsOf, slOf, dsOf, putB, xT, xTest, xAndT, xOrT, xNotT, sAsgX, sRetX, sDoX, sIfX, sAppX, sExc, sTry, sHds, noEx, sTryAs, wipeO, mIsE, sFz, sPop, negM, mChain, List.nodup_nil, List.all_nil, Bool.and_true, Bool.true_and, gone_through_b, ix0, tg_if, hi, nt_no, hn, hin, Bool.xor_false, hl]
            rw [datas_app]
            rfl
        show fin _ (gone_through_b (gone_through_m n) [.d w.data, .o (.lst (datas L))]) = _
        rw [e]
        rfl
theorem atoms_fn (w : Wd) (hw : Sm 70 w) (hz : kn w ≤ 2 ^ 24) : atoms_m [.d w.data] = .ret (.list (datas (atomsL w []))) [] := by
  have hg := gone_fn 70 w [] hw.2 ⟨hw.1, Nat.le_trans hw.2 (by decide)⟩ (by simp) (by simpa using hz)
  rw [atoms_m]
  refine fn_ret rfl (by simp [isO]) ?_
  refine ⟨[.d w.data, .d (.list (datas (atomsL w [])))], ?_⟩
  have hg' : gone_through_m 70 [.d w.data, .o (.lst [])] = .ret .none [.lst (datas (atomsL w []))] := hg
  simp only [runF, sSeq, sIf, sRet, sAsg, sNew, sApp, sSkip_ap, sFor, sForZ, mCall, mCons, mNil, mV, mVA, mC, mBin, mUn, mTest, mAndT, mOrT, mNotT, mAnd, mOr, mNot, mBl, bl?, mIf, mTup, mLst, mSl, mSome, mNo, mComp, mIt, mItB, mR1, mR2, mR1c, mZ, mZB, mYes, mkArgs, outs, itemsOf, isO, listM, tupleM, lenM, intM, subM_i, ltM_i, leM_i, gtM_i, geM_i, addM, Option.bind_some, Option.bind_none, Option.map_some, Option.map_none, List.length_cons, List.length_nil, List.getElem?_cons_zero, List.getElem?_cons_succ, List.set_cons_zero, List.set_cons_succ, List.cons_append, List.nil_append, List.append_nil, List.replicate, if_true, if_false, Nat.reduceAdd, Nat.reduceSub, Nat.reduceLeDiff, Nat.reduceEqDiff, reduceIte, Bool.false_eq_true, reduceCtorEq, Bool.not_true, Bool.not_false, decide_true, decide_false, id, xE, xCall, xNil, xCons, xSlot, xTup, xUn, xBin, xOut, xFin, slsOf, slOf, dsOf, putB, xT, xTest, xAndT, xOrT, xNotT, sAsgX, sRetX, sDoX, sIfX, sAppX, sExc, sTry, sHds, noEx, sTryAs, wipeO, mIsE, sFz, sPop, negM, mChain, List.nodup_nil, List.all_nil, Bool.and_true, Bool.true_and, atoms_b, okA_do, hg']
/-! ### so -/
def soB (met : List Wd) (row : List Bool) : Wd → Bool
  | .iff a b => !soB met row a || soB met row b
  | .no => false
  | w => (row[(wix w met).getD 0]?).getD false
theorem soB_at {met : List Wd} {row : List Bool} {w : Wd} (h1 : w.isIff = false) (h2 : w.isNo = false) : soB met row w = (row[(wix w met).getD 0]?).getD false := by
  cases w with
  | iff a b => cases h1
  | no => cases h2
  | _ => rfl
/-- every atom of w stands in met -/
def Has (met : List Wd) : Wd → Prop
  | .iff a b => Has met a ∧ Has met b
  | .no => True
  | w => (met.any fun u => weq u w) = true
theorem Has_at {met : List Wd} {w : Wd} (h1 : w.isIff = false) (h2 : w.isNo = false) : Has met w = ((met.any fun u => weq u w) = true) := by
  cases w with
  | iff a b => cases h1
  | no => cases h2
  | _ => rfl
def bools (row : List Bool) : PyData := .list (row.map .bool)
theorem ix_bools (row : List Bool) {j : Nat} (h : j < row.length) : ixM (bools row) (.int (j : Int)) = some (.bool ((row[j]?).getD false)) := by
  have hg : (row.map PyData.bool)[j]? = some (.bool ((row[j]?).getD false)) := by
    rw [List.getElem?_map, List.getElem?_eq_getElem h]; rfl
  exact atI_nat hg
theorem so_fn {met : List Wd} (hm : ∀ u ∈ met, Sm 31 u) {row : List Bool} (hr : row.length = met.length) : ∀ (n : Nat) (w : Wd), w.lay ≤ n → Sm 31 w → Has met w → so_under_m n [.d w.data, .d (.list (datas met)), .d (bools row)] = .ret (.bool (soB met row w)) []
  | 0, w, h, _, _ => by have := w.lay_pos; omega
  | n + 1, w, h, hw, hh => by
    cases hi : w.isIff with
    | true =>
      obtain ⟨a, b, rfl⟩ := iff_eq hi
      rw [lay] at h
      have ea := so_fn hm hr n a (by omega) hw.iff.1 hh.1
      have eb := so_fn hm hr n b (by omega) hw.iff.2 hh.2
      simp only [so_under_m, so_under_b, runF, sSeq, sIf, sRet, sAsg, sNew, sApp, sSkip_ap, sFor, sForZ, mCall, mCons, mNil, mV, mVA, mC, mBin, mUn, mTest, mAndT, mOrT, mNotT, mAnd, mOr, mNot, mBl, bl?, mIf, mTup, mLst, mSl, mSome, mNo, mComp, mIt, mItB, mR1, mR2, mR1c, mZ, mZB, mYes, mkArgs, outs, itemsOf, isO, listM, tupleM, lenM, intM, subM_i, ltM_i, leM_i, gtM_i, geM_i, addM, Option.bind_some, Option.bind_none, Option.map_some, Option.map_none, List.length_cons, List.length_nil, List.getElem?_cons_zero, List.getElem?_cons_succ, List.set_cons_zero, List.set_cons_succ, List.cons_append, List.nil_append, List.append_nil, List.replicate, if_true, if_false, Nat.reduceAdd, Nat.reduceSub, Nat.reduceLeDiff, Nat.reduceEqDiff, reduceIte, Bool.false_eq_true, reduceCtorEq, Bool.not_true, Bool.not_false, decide_true, decide_false, id, ix0, tg_no, tg_if, Wd.isNo, Wd.isIff, ix1_iff, ix2_iff, ea, eb, soB]
      cases soB met row a <;> cases soB met row b <;> rfl
    | false =>
      cases hn : w.isNo with
      | true =>
        have := isNo_eq hn
        subst this
        simp only [so_under_m, so_under_b, runF, sSeq, sIf, sRet, sAsg, sNew, sApp, sSkip_ap, sFor, sForZ, mCall, mCons, mNil, mV, mVA, mC, mBin, mUn, mTest, mAndT, mOrT, mNotT, mAnd, mOr, mNot, mBl, bl?, mIf, mTup, mLst, mSl, mSome, mNo, mComp, mIt, mItB, mR1, mR2, mR1c, mZ, mZB, mYes, mkArgs, outs, itemsOf, isO, listM, tupleM, lenM, intM, subM_i, ltM_i, leM_i, gtM_i, geM_i, addM, Option.bind_some, Option.bind_none, Option.map_some, Option.map_none, List.length_cons, List.length_nil, List.getElem?_cons_zero, List.getElem?_cons_succ, List.set_cons_zero, List.set_cons_succ, List.cons_append, List.nil_append, List.append_nil, List.replicate, if_true, if_false, Nat.reduceAdd, Nat.reduceSub, Nat.reduceLeDiff, Nat.reduceEqDiff, reduceIte, Bool.false_eq_true, reduceCtorEq, Bool.not_true, Bool.not_false, decide_true, decide_false, id, ix0, tg_no, Wd.isNo, soB]
      | false =>
        rw [Has_at hi hn] at hh
        obtain ⟨j, h1, h2⟩ := wix_some hh
        have hx := index_words hw.1 (fun u hu => (hm u hu).1) hw.2 (fun u hu => (hm u hu).2) h1
        have hb := ix_bools row (j := j) (by omega)
        rw [soB_at hi hn, h1]
        simp only [so_under_m, so_under_b, runF, sSeq, sIf, sRet, sAsg, sNew, sApp, sSkip_ap, sFor, sForZ, mCall, mCons, mNil, mV, mVA, mC, mBin, mUn, mTest, mAndT, mOrT, mNotT, mAnd, mOr, mNot, mBl, bl?, mIf, mTup, mLst, mSl, mSome, mNo, mComp, mIt, mItB, mR1, mR2, mR1c, mZ, mZB, mYes, mkArgs, outs, itemsOf, isO, listM, tupleM, lenM, intM, subM_i, ltM_i, leM_i, gtM_i, geM_i, addM, Option.bind_some, Option.bind_none, Option.map_some, Option.map_none, List.length_cons, List.length_nil, List.getElem?_cons_zero, List.getElem?_cons_succ, List.set_cons_zero, List.set_cons_succ, List.cons_append, List.nil_append, List.append_nil, List.replicate, if_true, if_false, Nat.reduceAdd, Nat.reduceSub, Nat.reduceLeDiff, Nat.reduceEqDiff, reduceIte, Bool.false_eq_true, reduceCtorEq, Bool.not_true, Bool.not_false, decide_true, decide_false, id, ix0, tg_no, tg_if, hi, hn, hx, hb, Option.getD_some]
/-! ### all rows -/
def rowsN : Nat → List (List Bool)
  | 0 => [[]]
  | k + 1 => (rowsN k).flatMap fun r => [r ++ [false], r ++ [true]]
theorem flat_len (vs : List (List Bool)) : (vs.flatMap fun r => [r ++ [false], r ++ [true]]).length = 2 * vs.length := by
  induction vs with
  | nil => rfl
  | cons v vs ih => rw [List.flatMap_cons, List.length_append, ih, List.length_cons]; simp; omega
theorem rowsN_len : ∀ (k : Nat), (rowsN k).length = 2 ^ k ∧ ∀ r ∈ rowsN k, r.length = k
  | 0 => ⟨rfl, by simp [rowsN]⟩
  | k + 1 => by
    obtain ⟨h1, h2⟩ := rowsN_len k
    refine ⟨?_, fun r hr => ?_⟩
    · rw [rowsN, flat_len, h1, Nat.pow_succ]; omega
    · rw [rowsN, List.mem_flatMap] at hr
      obtain ⟨q, hq, hr⟩ := hr
      have := h2 q hq
      simp at hr
      rcases hr with rfl | rfl <;> simp [this]
theorem addM_bools (r : List Bool) (b : Bool) (h : r.length < 2 ^ 20) : addM (bools r) (.list [.bool b]) = some (bools (r ++ [b])) := by
  unfold bools
  simp only [addM, List.length_map]
  rw [if_pos (by rw [sizeLine_eq]; simp; omega), List.map_append]
  rfl
theorem rows_fn (k : Nat) (hk : k ≤ 8) : rows_of_m [.d (.int (k : Int))] = .ret (.list ((rowsN k).map bools)) [] := by
  rw [rows_of_m]
  refine fn_ret rfl (by simp [isO]) ?_
  refine Ends.nx (ρ' := [.d (.int (k : Int)), .d (.list ((rowsN 0).map bools)), .nil, .nil, .nil]) (by simp only [runF, sSeq, sIf, sRet, sAsg, sNew, sApp, sSkip_ap, sFor, sForZ, mCall, mCons, mNil, mV, mVA, mC, mBin, mUn, mTest, mAndT, mOrT, mNotT, mAnd, mOr, mNot, mBl, bl?, mIf, mTup, mLst, mSl, mSome, mNo, mComp, mIt, mItB, mR1, mR2, mR1c, mZ, mZB, mYes, mkArgs, outs, itemsOf, isO, listM, tupleM, lenM, intM, subM_i, ltM_i, leM_i, gtM_i, geM_i, addM, Option.bind_some, Option.bind_none, Option.map_some, Option.map_none, List.length_cons, List.length_nil, List.getElem?_cons_zero, List.getElem?_cons_succ, List.set_cons_zero, List.set_cons_succ, List.cons_append, List.nil_append, List.append_nil, List.replicate, if_true, if_false, Nat.reduceAdd, Nat.reduceSub, Nat.reduceLeDiff, Nat.reduceEqDiff, reduceIte, Bool.false_eq_true, reduceCtorEq, Bool.not_true, Bool.not_false, decide_true, decide_false, id]; rfl) ?_
  refine Ends.go _ (Ends.forR (lo := 0) (n := k) (fun j ρ => ∃ s2 s3 s4, ρ = [.d (.int (k : Int)), .d (.list ((rowsN j).map bools)), s2, s3, s4] ∧ isO (some s2) = false ∧ isO (some s3) = false ∧ isO (some s4) = false) ?_ ⟨_, _, _, rfl, rfl, rfl, rfl⟩ ?_ fun ρ h => ⟨ρ, rfl, h⟩) ?_
  · simp only [runF, sSeq, sIf, sRet, sAsg, sNew, sApp, sSkip_ap, sFor, sForZ, mCall, mCons, mNil, mV, mVA, mC, mBin, mUn, mTest, mAndT, mOrT, mNotT, mAnd, mOr, mNot, mBl, bl?, mIf, mTup, mLst, mSl, mSome, mNo, mComp, mIt, mItB, mR1, mR2, mR1c, mZ, mZB, mYes, mkArgs, outs, itemsOf, isO, listM, tupleM, lenM, intM, subM_i, ltM_i, leM_i, gtM_i, geM_i, addM, Option.bind_some, Option.bind_none, Option.map_some, Option.map_none, List.length_cons, List.length_nil, List.getElem?_cons_zero, List.getElem?_cons_succ, List.set_cons_zero, List.set_cons_succ, List.cons_append, List.nil_append, List.append_nil, List.replicate, if_true, if_false, Nat.reduceAdd, Nat.reduceSub, Nat.reduceLeDiff, Nat.reduceEqDiff, reduceIte, Bool.false_eq_true, reduceCtorEq, Bool.not_true, Bool.not_false, decide_true, decide_false, id]
    rw [if_pos (by omega)]
    rw [Int.toNat_natCast]
  · rintro j ρ hj ⟨s2, s3, s4, rfl, h2, h3, h4⟩
    refine ⟨h2, ?_⟩
    refine Ends.nx (ρ' := [.d (.int (k : Int)), .d (.list ((rowsN j).map bools)), .d (.int (0 + (j : Int))), .o (.lst []), s4]) (by
      cases s3 with
      | o _ => cases h3
      | _ => simp only [runF, sSeq, sIf, sRet, sAsg, sNew, sApp, sSkip_ap, sFor, sForZ, mCall, mCons, mNil, mV, mVA, mC, mBin, mUn, mTest, mAndT, mOrT, mNotT, mAnd, mOr, mNot, mBl, bl?, mIf, mTup, mLst, mSl, mSome, mNo, mComp, mIt, mItB, mR1, mR2, mR1c, mZ, mZB, mYes, mkArgs, outs, itemsOf, isO, listM, tupleM, lenM, intM, subM_i, ltM_i, leM_i, gtM_i, geM_i, addM, Option.bind_some, Option.bind_none, Option.map_some, Option.map_none, List.length_cons, List.length_nil, List.getElem?_cons_zero, List.getElem?_cons_succ, List.set_cons_zero, List.set_cons_succ, List.cons_append, List.nil_append, List.append_nil, List.replicate, if_true, if_false, Nat.reduceAdd, Nat.reduceSub, Nat.reduceLeDiff, Nat.reduceEqDiff, reduceIte, Bool.false_eq_true, reduceCtorEq, Bool.not_true, Bool.not_false, decide_true, decide_false, id, xE, xCall, xNil, xCons, xSlot, xTup, xUn, xBin, xOut, xFin, slsOf, slOf, dsOf, putB, xT, xTest, xAndT, xOrT, xNotT, sAsgX, sRetX, sDoX, sIfX, sAppX, sExc, sTry, sHds, noEx, sTryAs, wipeO, mIsE, sFz, sPop, negM, mChain, List.nodup_nil, List.all_nil, Bool.and_true, Bool.true_and]) ?_
    obtain ⟨hl, hm⟩ := rowsN_len j
    have h2j : 2 ^ j ≤ 2 ^ 8 := Nat.pow_le_pow_right (by decide) (by omega)
    refine Ends.go _ (Ends.forG (g := bools) (all := rowsN j) (fun vs ρ => ∃ s4, ρ = [.d (.int (k : Int)), .d (.list ((rowsN j).map bools)), .d (.int (0 + (j : Int))), .o (.lst ((vs.flatMap fun r => [r ++ [false], r ++ [true]]).map bools)), s4] ∧ isO (some s4) = false) (by simp only [runF, sSeq, sIf, sRet, sAsg, sNew, sApp, sSkip_ap, sFor, sForZ, mCall, mCons, mNil, mV, mVA, mC, mBin, mUn, mTest, mAndT, mOrT, mNotT, mAnd, mOr, mNot, mBl, bl?, mIf, mTup, mLst, mSl, mSome, mNo, mComp, mIt, mItB, mR1, mR2, mR1c, mZ, mZB, mYes, mkArgs, outs, itemsOf, isO, listM, tupleM, lenM, intM, subM_i, ltM_i, leM_i, gtM_i, geM_i, addM, Option.bind_some, Option.bind_none, Option.map_some, Option.map_none, List.length_cons, List.length_nil, List.getElem?_cons_zero, List.getElem?_cons_succ, List.set_cons_zero, List.set_cons_succ, List.cons_append, List.nil_append, List.append_nil, List.replicate, if_true, if_false, Nat.reduceAdd, Nat.reduceSub, Nat.reduceLeDiff, Nat.reduceEqDiff, reduceIte, Bool.false_eq_true, reduceCtorEq, Bool.not_true, Bool.not_false, decide_true, decide_false, id]) ⟨_, rfl, h4⟩ ?_ fun ρ h => ⟨ρ, rfl, h⟩) ?_
    · rintro vs r us ρ ek ⟨s4, rfl, h4⟩
      have hr : r.length = j := hm r (by rw [← ek]; simp)
      have hv : vs.length < 2 ^ 8 := by
        have := congrArg List.length ek
        simp at this
        omega
      have hfl : ((vs.flatMap fun r => [r ++ [false], r ++ [true]]).map bools).length = 2 * vs.length := by
        rw [List.length_map, flat_len]
      have a1 := addM_bools r false (by omega)
      have a2 := addM_bools r true (by omega)
      have z1 : ((vs.flatMap fun r => [r ++ [false], r ++ [true]]).map bools).length < sizeLine := by rw [hfl, sizeLine_eq]; omega
      have z2 : ((vs.flatMap fun r => [r ++ [false], r ++ [true]]).map bools ++ [bools (r ++ [false])]).length < sizeLine := by rw [List.length_append, hfl, sizeLine_eq, List.length_singleton]; omega
      refine ⟨h4, _, ?_, .d (bools r), rfl, rfl⟩
      simp only [runF, sSeq, sIf, sRet, sAsg, sNew, sApp, sSkip_ap, sFor, sForZ, mCall, mCons, mNil, mV, mVA, mC, mBin, mUn, mTest, mAndT, mOrT, mNotT, mAnd, mOr, mNot, mBl, bl?, mIf, mTup, mLst, mSl, mSome, mNo, mComp, mIt, mItB, mR1, mR2, mR1c, mZ, mZB, mYes, mkArgs, outs, itemsOf, isO, listM, tupleM, lenM, intM, subM_i, ltM_i, leM_i, gtM_i, geM_i, Option.bind_some, Option.bind_none, Option.map_some, Option.map_none, List.length_cons, List.length_nil, List.getElem?_cons_zero, List.getElem?_cons_succ, List.set_cons_zero, List.set_cons_succ, List.cons_append, List.nil_append, List.append_nil, List.replicate, if_true, if_false, Nat.reduceAdd, Nat.reduceSub, Nat.reduceLeDiff, Nat.reduceEqDiff, reduceIte, Bool.false_eq_true, reduceCtorEq, Bool.not_true, Bool.not_false, decide_true, decide_false, id, a1, a2, z1, z2]
      rw [List.flatMap_append, List.map_append]
      simp
    · rintro ρ ⟨s4, rfl, h4⟩
      refine Ends.last (o := .nx [.d (.int (k : Int)), .d (.list ((rowsN (j + 1)).map bools)), .d (.int (0 + (j : Int))), .d (.list ((rowsN (j + 1)).map bools)), s4]) ?_ ⟨_, rfl, _, _, _, rfl, rfl, rfl, h4⟩
      simp only [runF, sSeq, sIf, sRet, sAsg, sNew, sApp, sSkip_ap, sFor, sForZ, mCall, mCons, mNil, mV, mVA, mC, mBin, mUn, mTest, mAndT, mOrT, mNotT, mAnd, mOr, mNot, mBl, bl?, mIf, mTup, mLst, mSl, mSome, mNo, mComp, mIt, mItB, mR1, mR2, mR1c, mZ, mZB, mYes, mkArgs, outs, itemsOf, isO, listM, tupleM, lenM, intM, subM_i, ltM_i, leM_i, gtM_i, geM_i, addM, Option.bind_some, Option.bind_none, Option.map_some, Option.map_none, List.length_cons, List.length_nil, List.getElem?_cons_zero, List.getElem?_cons_succ, List.set_cons_zero, List.set_cons_succ, List.cons_append, List.nil_append, List.append_nil, List.replicate, if_true, if_false, Nat.reduceAdd, Nat.reduceSub, Nat.reduceLeDiff, Nat.reduceEqDiff, reduceIte, Bool.false_eq_true, reduceCtorEq, Bool.not_true, Bool.not_false, decide_true, decide_false, id, xE, xCall, xNil, xCons, xSlot, xTup, xUn, xBin, xOut, xFin, slsOf, slOf, dsOf, putB, xT, xTest, xAndT, xOrT, xNotT, sAsgX, sRetX, sDoX, sIfX, sAppX, sExc, sTry, sHds, noEx, sTryAs, wipeO, mIsE, sFz, sPop, negM, mChain, List.nodup_nil, List.all_nil, Bool.and_true, Bool.true_and]
      rfl
  · rintro ρ ⟨s2, s3, s4, rfl, h2, h3, h4⟩
    exact Ends.ret (by simp only [runF, sSeq, sIf, sRet, sAsg, sNew, sApp, sSkip_ap, sFor, sForZ, mCall, mCons, mNil, mV, mVA, mC, mBin, mUn, mTest, mAndT, mOrT, mNotT, mAnd, mOr, mNot, mBl, bl?, mIf, mTup, mLst, mSl, mSome, mNo, mComp, mIt, mItB, mR1, mR2, mR1c, mZ, mZB, mYes, mkArgs, outs, itemsOf, isO, listM, tupleM, lenM, intM, subM_i, ltM_i, leM_i, gtM_i, geM_i, addM, Option.bind_some, Option.bind_none, Option.map_some, Option.map_none, List.length_cons, List.length_nil, List.getElem?_cons_zero, List.getElem?_cons_succ, List.set_cons_zero, List.set_cons_succ, List.cons_append, List.nil_append, List.append_nil, List.replicate, if_true, if_false, Nat.reduceAdd, Nat.reduceSub, Nat.reduceLeDiff, Nat.reduceEqDiff, reduceIte, Bool.false_eq_true, reduceCtorEq, Bool.not_true, Bool.not_false, decide_true, decide_false, id]) ⟨_, rfl⟩
/-! ### the refuter -/
def refuteB (met : List Wd) (w : Wd) : Option (List Bool) := (rowsN met.length).find? fun r => !soB met r w
def optRow : Option (List Bool) → PyData
  | some r => bools r
  | none => .none
theorem atomsL_pre : ∀ (w : Wd) (L : List Wd), ∃ M, atomsL w L = L ++ M
  | .iff a b, L => by
    obtain ⟨M, h1⟩ := atomsL_pre a L
    obtain ⟨N, h2⟩ := atomsL_pre b (atomsL a L)
    exact ⟨M ++ N, by rw [atomsL, h2, h1, List.append_assoc]⟩
  | .no, L => ⟨[], by rw [atomsL, List.append_nil]⟩
  | .var n, L => by
    rw [atomsL_at rfl rfl]; split
    · exact ⟨[], by rw [List.append_nil]⟩
    · exact ⟨_, rfl⟩
  | .fn x ps, L => by
    rw [atomsL_at rfl rfl]; split
    · exact ⟨[], by rw [List.append_nil]⟩
    · exact ⟨_, rfl⟩
  | .rel x ps, L => by
    rw [atomsL_at rfl rfl]; split
    · exact ⟨[], by rw [List.append_nil]⟩
    · exact ⟨_, rfl⟩
  | .same a b, L => by
    rw [atomsL_at rfl rfl]; split
    · exact ⟨[], by rw [List.append_nil]⟩
    · exact ⟨_, rfl⟩
  | .all a, L => by
    rw [atomsL_at rfl rfl]; split
    · exact ⟨[], by rw [List.append_nil]⟩
    · exact ⟨_, rfl⟩
theorem has_pre : ∀ (w : Wd) {L M : List Wd}, Has L w → Has (L ++ M) w
  | .iff a b, L, M, h => ⟨has_pre a h.1, has_pre b h.2⟩
  | .no, L, M, _ => trivial
  | .var n, L, M, h => by rw [Has_at rfl rfl] at h ⊢; rw [List.any_append, h]; rfl
  | .fn x ps, L, M, h => by rw [Has_at rfl rfl] at h ⊢; rw [List.any_append, h]; rfl
  | .rel x ps, L, M, h => by rw [Has_at rfl rfl] at h ⊢; rw [List.any_append, h]; rfl
  | .same a b, L, M, h => by rw [Has_at rfl rfl] at h ⊢; rw [List.any_append, h]; rfl
  | .all a, L, M, h => by rw [Has_at rfl rfl] at h ⊢; rw [List.any_append, h]; rfl
theorem has_one {w : Wd} (h1 : w.isIff = false) (h2 : w.isNo = false) (h : Ok w) (L : List Wd) : Has (atomsL w L) w := by
  rw [Has_at h1 h2, atomsL_at h1 h2]
  by_cases e : (L.any fun u => weq u w) = true
  · rw [if_pos e]; exact e
  · rw [if_neg e, List.any_append, List.any_cons, weq_refl h]; simp
theorem has_atoms : ∀ (w : Wd) (L : List Wd), Ok w → Has (atomsL w L) w
  | .iff a b, L, h => by
    have ha : Ok a := fun y hy => h y (by rw [names]; exact List.mem_append.mpr (.inl hy))
    have hb : Ok b := fun y hy => h y (by rw [names]; exact List.mem_append.mpr (.inr hy))
    rw [atomsL]
    obtain ⟨M, e⟩ := atomsL_pre b (atomsL a L)
    exact ⟨by rw [e]; exact has_pre a (has_atoms a L ha), has_atoms b _ hb⟩
  | .no, L, _ => trivial
  | .var n, L, h => has_one rfl rfl h L
  | .fn x ps, L, h => has_one rfl rfl h L
  | .rel x ps, L, h => has_one rfl rfl h L
  | .same a b, L, h => has_one rfl rfl h L
  | .all a, L, h => has_one rfl rfl h L
theorem refuter_large {w : Wd} (hw : Sm 31 w) (hz : kn w ≤ 2 ^ 20) (hm : 8 < (atomsL w []).length) : refuter_m [.d w.data] = .ex "TooLarge" [] := by
  have ha := atoms_fn w ⟨hw.1, Nat.le_trans hw.2 (by decide)⟩ (Nat.le_trans hz (by decide))
  have hlen : (8 : Int) < ((datas (atomsL w [])).length : Int) := by rw [datas_len]; omega
  simp only [refuter_m, refuter_b, runF, sSeq, sIf, sRet, sAsg, sNew, sApp, sSkip_ap, sFor, sForZ, mCall, mCons, mNil, mV, mVA, mC, mBin, mUn, mTest, mAndT, mOrT, mNotT, mAnd, mOr, mNot, mBl, bl?, mIf, mTup, mLst, mSl, mSome, mNo, mComp, mIt, mItB, mR1, mR2, mR1c, mZ, mZB, mYes, mkArgs, outs, itemsOf, isO, listM, tupleM, lenM, intM, subM_i, ltM_i, leM_i, gtM_i, geM_i, addM, Option.bind_some, Option.bind_none, Option.map_some, Option.map_none, List.length_cons, List.length_nil, List.getElem?_cons_zero, List.getElem?_cons_succ, List.set_cons_zero, List.set_cons_succ, List.cons_append, List.nil_append, List.append_nil, List.replicate, if_true, if_false, Nat.reduceAdd, Nat.reduceSub, Nat.reduceLeDiff, Nat.reduceEqDiff, reduceIte, Bool.false_eq_true, reduceCtorEq, Bool.not_true, Bool.not_false, decide_true, decide_false, id, sExc, ha, decide_eq_true hlen]
theorem refuter_fn {w : Wd} (hw : Sm 31 w) (hz : kn w ≤ 2 ^ 20) (hm : (atomsL w []).length ≤ 8) : refuter_m [.d w.data] = .ret (optRow (refuteB (atomsL w []) w)) [] := by
  have ha := atoms_fn w ⟨hw.1, Nat.le_trans hw.2 (by decide)⟩ (Nat.le_trans hz (by decide))
  have hsm := atomsL_sm (n := 31) (L := []) (by simp) hw
  have hh := has_atoms w [] hw.1
  unfold refuteB
  generalize atomsL w [] = met at ha hsm hh hm
  have hlen : ¬ (8 : Int) < ((datas met).length : Int) := by rw [datas_len]; omega
  obtain ⟨k, hk, hr⟩ : ∃ k : Int, lenM (.list (datas met)) = some (.int k) ∧ rows_of_m [.d (.int k)] = .ret (.list ((rowsN met.length).map bools)) [] := ⟨_, by rw [lenM, datas_len], rows_fn met.length hm⟩
  obtain ⟨_, hrl⟩ := rowsN_len met.length
  rw [refuter_m]
  refine fn_ret rfl (by simp [isO]) ?_
  refine Ends.nx (by simp only [runF, sSeq, sIf, sRet, sAsg, sNew, sApp, sSkip_ap, sFor, sForZ, mCall, mCons, mNil, mV, mVA, mC, mBin, mUn, mTest, mAndT, mOrT, mNotT, mAnd, mOr, mNot, mBl, bl?, mIf, mTup, mLst, mSl, mSome, mNo, mComp, mIt, mItB, mR1, mR2, mR1c, mZ, mZB, mYes, mkArgs, outs, itemsOf, isO, listM, tupleM, lenM, intM, subM_i, ltM_i, leM_i, gtM_i, geM_i, addM, Option.bind_some, Option.bind_none, Option.map_some, Option.map_none, List.length_cons, List.length_nil, List.getElem?_cons_zero, List.getElem?_cons_succ, List.set_cons_zero, List.set_cons_succ, List.cons_append, List.nil_append, List.append_nil, List.replicate, if_true, if_false, Nat.reduceAdd, Nat.reduceSub, Nat.reduceLeDiff, Nat.reduceEqDiff, reduceIte, Bool.false_eq_true, reduceCtorEq, Bool.not_true, Bool.not_false, decide_true, decide_false, id, ha]; rfl) ?_
  refine Ends.nx (by simp only [runF, sSeq, sIf, sRet, sAsg, sNew, sApp, sSkip_ap, sFor, sForZ, mCall, mCons, mNil, mV, mVA, mC, mBin, mUn, mTest, mAndT, mOrT, mNotT, mAnd, mOr, mNot, mBl, bl?, mIf, mTup, mLst, mSl, mSome, mNo, mComp, mIt, mItB, mR1, mR2, mR1c, mZ, mZB, mYes, mkArgs, outs, itemsOf, isO, listM, tupleM, lenM, intM, subM_i, ltM_i, leM_i, gtM_i, geM_i, addM, Option.bind_some, Option.bind_none, Option.map_some, Option.map_none, List.length_cons, List.length_nil, List.getElem?_cons_zero, List.getElem?_cons_succ, List.set_cons_zero, List.set_cons_succ, List.cons_append, List.nil_append, List.append_nil, List.replicate, if_true, if_false, Nat.reduceAdd, Nat.reduceSub, Nat.reduceLeDiff, Nat.reduceEqDiff, reduceIte, Bool.false_eq_true, reduceCtorEq, Bool.not_true, Bool.not_false, decide_true, decide_false, id, decide_eq_false hlen]; rfl) ?_
  refine Ends.find (g := bools) (all := rowsN met.length) (fun ρ => ∃ s, ρ = [.d w.data, .d (.list (datas met)), s] ∧ isO (some s) = false) (fun r => !soB met r w) ?_ ⟨_, rfl, rfl⟩ ?_ ?_ ?_
  · simp only [runF, sSeq, sIf, sRet, sAsg, sNew, sApp, sSkip_ap, sFor, sForZ, mCall, mCons, mNil, mV, mVA, mC, mBin, mUn, mTest, mAndT, mOrT, mNotT, mAnd, mOr, mNot, mBl, bl?, mIf, mTup, mLst, mSl, mSome, mNo, mComp, mIt, mItB, mR1, mR2, mR1c, mZ, mZB, mYes, mkArgs, outs, itemsOf, isO, listM, tupleM, intM, subM_i, ltM_i, leM_i, gtM_i, geM_i, addM, Option.bind_some, Option.bind_none, Option.map_some, Option.map_none, List.length_cons, List.length_nil, List.getElem?_cons_zero, List.getElem?_cons_succ, List.set_cons_zero, List.set_cons_succ, List.cons_append, List.nil_append, List.append_nil, List.replicate, if_true, if_false, Nat.reduceAdd, Nat.reduceSub, Nat.reduceLeDiff, Nat.reduceEqDiff, reduceIte, Bool.false_eq_true, reduceCtorEq, Bool.not_true, Bool.not_false, decide_true, decide_false, id, hk, hr]
  · rintro r hr ρ ⟨s, rfl, hs'⟩
    have hs := so_fn hsm (hrl r hr) 70 w (Nat.le_trans hw.2 (by decide)) hw hh
    refine ⟨hs', [.d w.data, .d (.list (datas met)), .d (bools r)], ⟨_, rfl, rfl⟩, ?_⟩
    simp only [runF, sSeq, sIf, sRet, sAsg, sNew, sApp, sSkip_ap, sFor, sForZ, mCall, mCons, mNil, mV, mVA, mC, mBin, mUn, mTest, mAndT, mOrT, mNotT, mAnd, mOr, mNot, mBl, bl?, mIf, mTup, mLst, mSl, mSome, mNo, mComp, mIt, mItB, mR1, mR2, mR1c, mZ, mZB, mYes, mkArgs, outs, itemsOf, isO, listM, tupleM, lenM, intM, subM_i, ltM_i, leM_i, gtM_i, geM_i, addM, Option.bind_some, Option.bind_none, Option.map_some, Option.map_none, List.length_cons, List.length_nil, List.getElem?_cons_zero, List.getElem?_cons_succ, List.set_cons_zero, List.set_cons_succ, List.cons_append, List.nil_append, List.append_nil, List.replicate, if_true, if_false, Nat.reduceAdd, Nat.reduceSub, Nat.reduceLeDiff, Nat.reduceEqDiff, reduceIte, Bool.false_eq_true, reduceCtorEq, Bool.not_true, Bool.not_false, decide_true, decide_false, id, hs]
    cases soB met r w <;> rfl
  · rintro r hf ρ _
    exact ⟨ρ, by rw [hf]; rfl⟩
  · rintro hf ρ _
    rw [hf]
    exact Ends.ret rfl ⟨_, rfl⟩
end PL

namespace PL
open PySem PySem.Spec PyProof.Rows L2
open Wd
/-! ### the law's own functions -/
theorem met_fn : ∀ (n : Nat) (w : Wd) (L : List Wd), w.lay ≤ n → Sm 90 w → (∀ u ∈ L, Sm 90 u) → L.length + kn w ≤ 2 ^ 20 → met_l_m n [.d w.data, .d (.list (datas L))] = .ret (.list (datas (atomsL w L))) []
  | 0, w, L, h, _, _, _ => by have := w.lay_pos; omega
  | n + 1, w, L, h, hw, hL, hz => by
    cases hi : w.isIff with
    | true =>
      obtain ⟨a, b, rfl⟩ := iff_eq hi
      rw [lay] at h
      rw [kn] at hz
      have hla := atomsL_len a L
      have ea := met_fn n a L (by omega) hw.iff.1 hL (by omega)
      have eb := met_fn n b (atomsL a L) (by omega) hw.iff.2 (atomsL_sm hL hw.iff.1) (by omega)
      simp only [met_l_m, met_l_b, runF, sSeq, sIf, sRet, sAsg, sNew, sApp, sSkip_ap, sFor, sForZ, mCall, mCons, mNil, mV, mVA, mC, mBin, mUn, mTest, mAndT, mOrT, mNotT, mAnd, mOr, mNot, mBl, bl?, mIf, mTup, mLst, mSl, mSome, mNo, mComp, mIt, mItB, mR1, mR2, mR1c, mZ, mZB, mYes, mkArgs, outs, itemsOf, isO, listM, tupleM, lenM, intM, subM_i, ltM_i, leM_i, gtM_i, geM_i, addM, Option.bind_some, Option.bind_none, Option.map_some, Option.map_none, List.length_cons, List.length_nil, List.getElem?_cons_zero, List.getElem?_cons_succ, List.set_cons_zero, List.set_cons_succ, List.cons_append, List.nil_append, List.append_nil, List.replicate, if_true, if_false, Nat.reduceAdd, Nat.reduceSub, Nat.reduceLeDiff, Nat.reduceEqDiff, reduceIte, Bool.false_eq_true, reduceCtorEq, Bool.not_true, Bool.not_false, decide_true, decide_false, id, ix0, tg_if, Wd.isIff, ix1_iff, ix2_iff, ea, eb, atomsL]
    | false =>
      cases hn : w.isNo with
      | true =>
        have := isNo_eq hn
        subst this
        simp only [met_l_m, met_l_b, runF, sSeq, sIf, sRet, sAsg, sNew, sApp, sSkip_ap, sFor, sForZ, mCall, mCons, mNil, mV, mVA, mC, mBin, mUn, mTest, mAndT, mOrT, mNotT, mAnd, mOr, mNot, mBl, bl?, mIf, mTup, mLst, mSl, mSome, mNo, mComp, mIt, mItB, mR1, mR2, mR1c, mZ, mZB, mYes, mkArgs, outs, itemsOf, isO, listM, tupleM, lenM, intM, subM_i, ltM_i, leM_i, gtM_i, geM_i, addM, Option.bind_some, Option.bind_none, Option.map_some, Option.map_none, List.length_cons, List.length_nil, List.getElem?_cons_zero, List.getElem?_cons_succ, List.set_cons_zero, List.set_cons_succ, List.cons_append, List.nil_append, List.append_nil, List.replicate, if_true, if_false, Nat.reduceAdd, Nat.reduceSub, Nat.reduceLeDiff, Nat.reduceEqDiff, reduceIte, Bool.false_eq_true, reduceCtorEq, Bool.not_true, Bool.not_false, decide_true, decide_false, id, ix0, tg_if, tg_no, Wd.isIff, Wd.isNo, atomsL]
      | false =>
        have hin := inM_words false hw.1 (fun u hu => (hL u hu).1) (ws := L) (Nat.le_trans hw.2 (by decide))
        rw [Bool.false_xor] at hin
        have hkp := kn_pos w
        rw [atomsL_at hi hn]
        cases ha : L.any fun u => weq u w with
        | true =>
          rw [ha] at hin
          simp only [met_l_m, met_l_b, runF, sSeq, sIf, sRet, sAsg, sNew, sApp, sSkip_ap, sFor, sForZ, mCall, mCons, mNil, mV, mVA, mC, mBin, mUn, mTest, mAndT, mOrT, mNotT, mAnd, mOr, mNot, mBl, bl?, mIf, mTup, mLst, mSl, mSome, mNo, mComp, mIt, mItB, mR1, mR2, mR1c, mZ, mZB, mYes, mkArgs, outs, itemsOf, isO, listM, tupleM, lenM, intM, subM_i, ltM_i, leM_i, gtM_i, geM_i, addM, Option.bind_some, Option.bind_none, Option.map_some, Option.map_none, List.length_cons, List.length_nil, List.getElem?_cons_zero, List.getElem?_cons_succ, List.set_cons_zero, List.set_cons_succ, List.cons_append, List.nil_append, List.append_nil, List.replicate, if_true, if_false, Nat.reduceAdd, Nat.reduceSub, Nat.reduceLeDiff, Nat.reduceEqDiff, reduceIte, Bool.false_eq_true, reduceCtorEq, Bool.not_true, Bool.not_false, decide_true, decide_false, id, ix0, tg_if, tg_no, hi, hn, hin]
        | false =>
          rw [ha] at hin
          have hadd : addM (.list (datas L)) (.list [w.data]) = some (.list (datas (L ++ [w]))) := by
            simp only [addM]
            rw [if_pos (by rw [datas_len, sizeLine_eq]; simp; omega), datas_app]
            rfl
          simp only [met_l_m, met_l_b, runF, sSeq, sIf, sRet, sAsg, sNew, sApp, sSkip_ap, sFor, sForZ, mCall, mCons, mNil, mV, mVA, mC, mBin, mUn, mTest, mAndT, mOrT, mNotT, mAnd, mOr, mNot, mBl, bl?, mIf, mTup, mLst, mSl, mSome, mNo, mComp, mIt, mItB, mR1, mR2, mR1c, mZ, mZB, mYes, mkArgs, outs, itemsOf, isO, listM, tupleM, lenM, intM, subM_i, ltM_i, leM_i, gtM_i, geM_i, Option.bind_some, Option.bind_none, Option.map_some, Option.map_none, List.length_cons, List.length_nil, List.getElem?_cons_zero, List.getElem?_cons_succ, List.set_cons_zero, List.set_cons_succ, List.cons_append, List.nil_append, List.append_nil, List.replicate, if_true, if_false, Nat.reduceAdd, Nat.reduceSub, Nat.reduceLeDiff, Nat.reduceEqDiff, reduceIte, Bool.false_eq_true, reduceCtorEq, Bool.not_true, Bool.not_false, decide_true, decide_false, id, ix0, tg_if, tg_no, hi, hn, hin, hadd]
theorem soL_fn {met : List Wd} (hm : ∀ u ∈ met, Sm 31 u) {row : List Bool} (hr : row.length = met.length) : ∀ (n : Nat) (w : Wd), w.lay ≤ n → Sm 31 w → Has met w → so_l_m n [.d w.data, .d (.list (datas met)), .d (bools row)] = .ret (.bool (soB met row w)) []
  | 0, w, h, _, _ => by have := w.lay_pos; omega
  | n + 1, w, h, hw, hh => by
    cases hi : w.isIff with
    | true =>
      obtain ⟨a, b, rfl⟩ := iff_eq hi
      rw [lay] at h
      have ea := soL_fn hm hr n a (by omega) hw.iff.1 hh.1
      have eb := soL_fn hm hr n b (by omega) hw.iff.2 hh.2
      simp only [so_l_m, so_l_b, runF, sSeq, sIf, sRet, sAsg, sNew, sApp, sSkip_ap, sFor, sForZ, mCall, mCons, mNil, mV, mVA, mC, mBin, mUn, mTest, mAndT, mOrT, mNotT, mAnd, mOr, mNot, mBl, bl?, mIf, mTup, mLst, mSl, mSome, mNo, mComp, mIt, mItB, mR1, mR2, mR1c, mZ, mZB, mYes, mkArgs, outs, itemsOf, isO, listM, tupleM, lenM, intM, subM_i, ltM_i, leM_i, gtM_i, geM_i, addM, Option.bind_some, Option.bind_none, Option.map_some, Option.map_none, List.length_cons, List.length_nil, List.getElem?_cons_zero, List.getElem?_cons_succ, List.set_cons_zero, List.set_cons_succ, List.cons_append, List.nil_append, List.append_nil, List.replicate, if_true, if_false, Nat.reduceAdd, Nat.reduceSub, Nat.reduceLeDiff, Nat.reduceEqDiff, reduceIte, Bool.false_eq_true, reduceCtorEq, Bool.not_true, Bool.not_false, decide_true, decide_false, id, ix0, tg_if, Wd.isIff, ix1_iff, ix2_iff, ea, eb, soB]
      cases soB met row a <;> cases soB met row b <;> rfl
    | false =>
      cases hn : w.isNo with
      | true =>
        have := isNo_eq hn
        subst this
        simp only [so_l_m, so_l_b, runF, sSeq, sIf, sRet, sAsg, sNew, sApp, sSkip_ap, sFor, sForZ, mCall, mCons, mNil, mV, mVA, mC, mBin, mUn, mTest, mAndT, mOrT, mNotT, mAnd, mOr, mNot, mBl, bl?, mIf, mTup, mLst, mSl, mSome, mNo, mComp, mIt, mItB, mR1, mR2, mR1c, mZ, mZB, mYes, mkArgs, outs, itemsOf, isO, listM, tupleM, lenM, intM, subM_i, ltM_i, leM_i, gtM_i, geM_i, addM, Option.bind_some, Option.bind_none, Option.map_some, Option.map_none, List.length_cons, List.length_nil, List.getElem?_cons_zero, List.getElem?_cons_succ, List.set_cons_zero, List.set_cons_succ, List.cons_append, List.nil_append, List.append_nil, List.replicate, if_true, if_false, Nat.reduceAdd, Nat.reduceSub, Nat.reduceLeDiff, Nat.reduceEqDiff, reduceIte, Bool.false_eq_true, reduceCtorEq, Bool.not_true, Bool.not_false, decide_true, decide_false, id, ix0, tg_if, Wd.isIff, nt_no, Wd.isNo, soB]
      | false =>
        rw [Has_at hi hn] at hh
        obtain ⟨j, h1, h2⟩ := wix_some hh
        have hx := index_words hw.1 (fun u hu => (hm u hu).1) hw.2 (fun u hu => (hm u hu).2) h1
        have hb := ix_bools row (j := j) (by omega)
        rw [soB_at hi hn, h1]
        simp only [so_l_m, so_l_b, runF, sSeq, sIf, sRet, sAsg, sNew, sApp, sSkip_ap, sFor, sForZ, mCall, mCons, mNil, mV, mVA, mC, mBin, mUn, mTest, mAndT, mOrT, mNotT, mAnd, mOr, mNot, mBl, bl?, mIf, mTup, mLst, mSl, mSome, mNo, mComp, mIt, mItB, mR1, mR2, mR1c, mZ, mZB, mYes, mkArgs, outs, itemsOf, isO, listM, tupleM, lenM, intM, subM_i, ltM_i, leM_i, gtM_i, geM_i, addM, Option.bind_some, Option.bind_none, Option.map_some, Option.map_none, List.length_cons, List.length_nil, List.getElem?_cons_zero, List.getElem?_cons_succ, List.set_cons_zero, List.set_cons_succ, List.cons_append, List.nil_append, List.append_nil, List.replicate, if_true, if_false, Nat.reduceAdd, Nat.reduceSub, Nat.reduceLeDiff, Nat.reduceEqDiff, reduceIte, Bool.false_eq_true, reduceCtorEq, Bool.not_true, Bool.not_false, decide_true, decide_false, id, ix0, tg_if, hi, nt_no, hn, hx, hb, Option.getD_some]
/-- all ends of a row, the first False -/
def rowsD : Nat → List (List Bool)
  | 0 => [[]]
  | k + 1 => (rowsD k).map (false :: ·) ++ (rowsD k).map (true :: ·)
theorem rows_same : ∀ k, rowsD k = rowsN k
  | 0 => rfl
  | k + 1 => by
    have key : ∀ k, rowsD (k + 1) = (rowsD k).flatMap fun r => [r ++ [false], r ++ [true]] := by
      intro k
      induction k with
      | zero => rfl
      | succ k ih =>
        have hf : ∀ (b : Bool) (l : List (List Bool)), ((l.map (b :: ·)).flatMap fun r => [r ++ [false], r ++ [true]]) = (l.flatMap fun r => [r ++ [false], r ++ [true]]).map (b :: ·) := by
          intro b l
          induction l with
          | nil => rfl
          | cons r l ih => rw [List.map_cons, List.flatMap_cons, List.flatMap_cons, List.map_append, ih]; rfl
        rw [rowsD, ih, ← hf, ← hf, ← List.flatMap_append, ← rowsD, ih]
    rw [key, rows_same k, rowsN]
theorem find_map {α β : Type} (f : α → β) (p : β → Bool) : ∀ l : List α, (l.map f).find? p = (l.find? fun x => p (f x)).map f
  | [] => rfl
  | a :: l => by
    rw [List.map_cons, List.find?_cons, List.find?_cons]
    cases h : p (f a) with
    | true => simp [h]
    | false => simp only [h]; exact find_map f p l
theorem first_fn8 {met : List Wd} (hm : ∀ u ∈ met, Sm 31 u) (hl : met.length ≤ 8) {w : Wd} (hw : Sm 31 w) (hh : Has met w) : ∀ (n k : Nat) (row : List Bool), k + 1 ≤ n → row.length + k = met.length →
    first_l_m n [.d w.data, .d (.list (datas met)), .d (bools row)] = .ret (optRow (((rowsD k).find? fun r => !soB met (row ++ r) w).map (row ++ ·))) []
  | 0, k, row, h, _ => by omega
  | n + 1, 0, row, h, hr => by
    have hs := soL_fn hm (by omega : row.length = met.length) 70 w (Nat.le_trans hw.2 (by decide)) hw hh
    have e1 : lenM (bools row) = some (.int (met.length : Int)) := by simp only [lenM, bools, List.length_map]; rw [show row.length = met.length by omega]
    have e2 : lenM (.list (datas met)) = some (.int (met.length : Int)) := by simp only [lenM, datas_len]
    rw [rowsD, List.find?_cons, List.append_nil]
    cases hb : soB met row w with
    | true =>
      rw [hb] at hs
      simp only [first_l_m, first_l_b, runF, sSeq, sIf, sRet, sAsg, sNew, sApp, sSkip_ap, sFor, sForZ, mCall, mCons, mNil, mV, mVA, mC, mBin, mUn, mTest, mAndT, mOrT, mNotT, mAnd, mOr, mNot, mBl, bl?, mIf, mTup, mLst, mSl, mSome, mNo, mComp, mIt, mItB, mR1, mR2, mR1c, mZ, mZB, mYes, mkArgs, outs, itemsOf, isO, listM, tupleM, intM, subM_i, ltM_i, leM_i, gtM_i, geM_i, addM, Option.bind_some, Option.bind_none, Option.map_some, Option.map_none, List.length_cons, List.length_nil, List.getElem?_cons_zero, List.getElem?_cons_succ, List.set_cons_zero, List.set_cons_succ, List.cons_append, List.nil_append, List.append_nil, List.replicate, if_true, if_false, Nat.reduceAdd, Nat.reduceSub, Nat.reduceLeDiff, Nat.reduceEqDiff, reduceIte, Bool.false_eq_true, reduceCtorEq, Bool.not_true, Bool.not_false, decide_true, decide_false, id, e1, e2, eqM_int, hs, hb, List.find?_nil, optRow]
    | false =>
      rw [hb] at hs
      simp only [first_l_m, first_l_b, runF, sSeq, sIf, sRet, sAsg, sNew, sApp, sSkip_ap, sFor, sForZ, mCall, mCons, mNil, mV, mVA, mC, mBin, mUn, mTest, mAndT, mOrT, mNotT, mAnd, mOr, mNot, mBl, bl?, mIf, mTup, mLst, mSl, mSome, mNo, mComp, mIt, mItB, mR1, mR2, mR1c, mZ, mZB, mYes, mkArgs, outs, itemsOf, isO, listM, tupleM, intM, subM_i, ltM_i, leM_i, gtM_i, geM_i, addM, Option.bind_some, Option.bind_none, Option.map_some, Option.map_none, List.length_cons, List.length_nil, List.getElem?_cons_zero, List.getElem?_cons_succ, List.set_cons_zero, List.set_cons_succ, List.cons_append, List.nil_append, List.append_nil, List.replicate, if_true, if_false, Nat.reduceAdd, Nat.reduceSub, Nat.reduceLeDiff, Nat.reduceEqDiff, reduceIte, Bool.false_eq_true, reduceCtorEq, Bool.not_true, Bool.not_false, decide_true, decide_false, id, e1, e2, eqM_int, hs, hb, optRow, List.append_nil]
  | n + 1, k + 1, row, h, hr => by
    have e1 : lenM (bools row) = some (.int (row.length : Int)) := by simp only [lenM, bools, List.length_map]
    have e2 : lenM (.list (datas met)) = some (.int (met.length : Int)) := by simp only [lenM, datas_len]
    have hne : ¬ ((row.length : Int) = (met.length : Int)) := by omega
    have a1 := addM_bools row false (by omega)
    have a2 := addM_bools row true (by omega)
    have f1 := first_fn8 hm hl hw hh n k (row ++ [false]) (by omega) (by simp; omega)
    have f2 := first_fn8 hm hl hw hh n k (row ++ [true]) (by omega) (by simp; omega)
    have g1 : ∀ b : Bool, (fun r => !soB met (row ++ [b] ++ r) w) = fun r => !soB met (row ++ (b :: r)) w := fun b => by funext r; rw [List.append_assoc]; rfl
    rw [g1] at f1 f2
    rw [rowsD, List.find?_append, find_map, find_map]
    have ee : ∀ (b : Bool) (o : Option (List Bool)), (o.map (b :: ·)).map (row ++ ·) = o.map (row ++ [b] ++ ·) := fun b o => by cases o <;> simp
    cases hf : (rowsD k).find? fun r => !soB met (row ++ (false :: r)) w with
    | some r =>
      rw [hf] at f1
      have i1 : isNM true (optRow (some (row ++ [false] ++ r))) .none = some (.bool true) := rfl
      have f1 : first_l_m n [.d w.data, .d (.list (datas met)), .d (bools (row ++ [false]))] = .ret (optRow (some (row ++ [false] ++ r))) [] := f1
      have hg : ((Option.map (fun x => false :: x) (some r)).or (Option.map (fun x => true :: x) ((rowsD k).find? fun r => !soB met (row ++ (true :: r)) w))).map (row ++ ·) = some (row ++ [false] ++ r) := by simp
      rw [hg]
      simp only [first_l_m, first_l_b, runF, sSeq, sIf, sRet, sAsg, sNew, sApp, sSkip_ap, sFor, sForZ, mCall, mCons, mNil, mV, mVA, mC, mBin, mUn, mTest, mAndT, mOrT, mNotT, mAnd, mOr, mNot, mBl, bl?, mIf, mTup, mLst, mSl, mSome, mNo, mComp, mIt, mItB, mR1, mR2, mR1c, mZ, mZB, mYes, mkArgs, outs, itemsOf, isO, listM, tupleM, intM, subM_i, ltM_i, leM_i, gtM_i, geM_i, Option.bind_some, Option.bind_none, Option.map_some, Option.map_none, List.length_cons, List.length_nil, List.getElem?_cons_zero, List.getElem?_cons_succ, List.set_cons_zero, List.set_cons_succ, List.cons_append, List.nil_append, List.append_nil, List.replicate, if_true, if_false, Nat.reduceAdd, Nat.reduceSub, Nat.reduceLeDiff, Nat.reduceEqDiff, reduceIte, Bool.false_eq_true, reduceCtorEq, Bool.not_true, Bool.not_false, decide_true, decide_false, id, e1, e2, eqM_int, decide_eq_false hne, a1, f1, i1]
    | none =>
      rw [hf] at f1
      have i1 : isNM true (optRow none) .none = some (.bool false) := rfl
      have f1 : first_l_m n [.d w.data, .d (.list (datas met)), .d (bools (row ++ [false]))] = .ret (optRow none) [] := f1
      rw [Option.map_none, Option.none_or, ee]
      simp only [first_l_m, first_l_b, runF, sSeq, sIf, sRet, sAsg, sNew, sApp, sSkip_ap, sFor, sForZ, mCall, mCons, mNil, mV, mVA, mC, mBin, mUn, mTest, mAndT, mOrT, mNotT, mAnd, mOr, mNot, mBl, bl?, mIf, mTup, mLst, mSl, mSome, mNo, mComp, mIt, mItB, mR1, mR2, mR1c, mZ, mZB, mYes, mkArgs, outs, itemsOf, isO, listM, tupleM, intM, subM_i, ltM_i, leM_i, gtM_i, geM_i, Option.bind_some, Option.bind_none, Option.map_some, Option.map_none, List.length_cons, List.length_nil, List.getElem?_cons_zero, List.getElem?_cons_succ, List.set_cons_zero, List.set_cons_succ, List.cons_append, List.nil_append, List.append_nil, List.replicate, if_true, if_false, Nat.reduceAdd, Nat.reduceSub, Nat.reduceLeDiff, Nat.reduceEqDiff, reduceIte, Bool.false_eq_true, reduceCtorEq, Bool.not_true, Bool.not_false, decide_true, decide_false, id, e1, e2, eqM_int, decide_eq_false hne, a1, f1, i1, a2, f2]
theorem es8_t : (["Unfit", "TooLarge"] : List Str).contains "TooLarge" = true := by decide +kernel
theorem sub_tt : subE "TooLarge" "TooLarge" = true := by decide +kernel
theorem sub_th : subE "TooLarge" "HallError" = true := by decide +kernel
theorem sub_tu : subE "TooLarge" "Unfit" = false := by decide +kernel
theorem large_fn {w : Wd} (h : refuter_m [.d w.data] = .ex "TooLarge" []) : large_l_m [.d w.data] = .ret (.bool true) [] := by
  rw [large_l_m]
  refine fn_ret rfl (by simp [isO]) ⟨[.d w.data, .nil], ?_⟩
  simp only [runF, sSeq, sIf, sRet, sAsg, sNew, sApp, sSkip_ap, sFor, sForZ, mCall, mCons, mNil, mV, mVA, mC, mBin, mUn, mTest, mAndT, mOrT, mNotT, mAnd, mOr, mNot, mBl, bl?, mIf, mTup, mLst, mSl, mSome, mNo, mComp, mIt, mItB, mR1, mR2, mR1c, mZ, mZB, mYes, mkArgs, outs, itemsOf, isO, listM, tupleM, lenM, intM, subM_i, ltM_i, leM_i, gtM_i, geM_i, addM, Option.bind_some, Option.bind_none, Option.map_some, Option.map_none, List.length_cons, List.length_nil, List.getElem?_cons_zero, List.getElem?_cons_succ, List.set_cons_zero, List.set_cons_succ, List.cons_append, List.nil_append, List.append_nil, List.replicate, if_true, if_false, Nat.reduceAdd, Nat.reduceSub, Nat.reduceLeDiff, Nat.reduceEqDiff, reduceIte, Bool.false_eq_true, reduceCtorEq, Bool.not_true, Bool.not_false, decide_true, decide_false, id, xE, xCall, xNil, xCons, xSlot, xTup, xUn, xBin, xOut, xFin, slsOf, slOf, dsOf, putB, xT, xTest, xAndT, xOrT, xNotT, sAsgX, sRetX, sDoX, sIfX, sAppX, sExc, sTry, sHds, noEx, sTryAs, wipeO, mIsE, sFz, sPop, negM, mChain, List.nodup_nil, List.all_nil, Bool.and_true, Bool.true_and, large_l_b, h, okA_d, es8_t, sub_tt, sub_th, sub_tu, isO]
/-! rows of the law alike -/
theorem rows_like_fn {ds : List PyData} (h : ∀ d ∈ ds, Lk 70 d) : rows_like_l_m [.d (.list ds), .d (.list ds)] = .ret (.bool true) [] := by
  have key := forZ_same (i := 2) (j := 3) (body := sIf (mNotT (mTest (mCall [true, true] (like_l_m 70) (mCons (mV 2) (mCons (mV 3) mNil))))) (sRet (mC (.bool false))) sSkip)
    (fun ρ => ∃ a b, ρ = [.d (.list ds), .d (.list ds), a, b] ∧ isO (some a) = false ∧ isO (some b) = false) ds [.d (.list ds), .d (.list ds), .nil, .nil] ⟨_, _, rfl, rfl, rfl⟩ (by
      rintro d hd' ρ ⟨a, b, rfl, ha, hb⟩
      refine ⟨by simp [ha, hb], [.d (.list ds), .d (.list ds), .d d, .d d], ?_, _, _, rfl, rfl, rfl⟩
      simp only [runF, sSeq, sIf, sRet, sAsg, sNew, sApp, sSkip_ap, sFor, sForZ, mCall, mCons, mNil, mV, mVA, mC, mBin, mUn, mTest, mAndT, mOrT, mNotT, mAnd, mOr, mNot, mBl, bl?, mIf, mTup, mLst, mSl, mSome, mNo, mComp, mIt, mItB, mR1, mR2, mR1c, mZ, mZB, mYes, mkArgs, outs, itemsOf, isO, listM, tupleM, lenM, intM, subM_i, ltM_i, leM_i, gtM_i, geM_i, addM, Option.bind_some, Option.bind_none, Option.map_some, Option.map_none, List.length_cons, List.length_nil, List.getElem?_cons_zero, List.getElem?_cons_succ, List.set_cons_zero, List.set_cons_succ, List.cons_append, List.nil_append, List.append_nil, List.replicate, if_true, if_false, Nat.reduceAdd, Nat.reduceSub, Nat.reduceLeDiff, Nat.reduceEqDiff, reduceIte, Bool.false_eq_true, reduceCtorEq, Bool.not_true, Bool.not_false, decide_true, decide_false, id, like_fn 70 d (h d hd')])
  obtain ⟨ρ', e, a, b, rfl, ha, hb⟩ := key
  simp only [rows_like_l_m, rows_like_l_b, runF, sSeq, sIf, sRet, sAsg, sNew, sApp, sSkip_ap, sFor, sForZ, mCall, mCons, mNil, mV, mVA, mC, mBin, mUn, mTest, mAndT, mOrT, mNotT, mAnd, mOr, mNot, mBl, bl?, mIf, mTup, mLst, mSl, mSome, mNo, mComp, mIt, mItB, mR1, mR2, mR1c, mZ, mZB, mYes, mkArgs, outs, itemsOf, isO, listM, tupleM, lenM, intM, subM_i, ltM_i, leM_i, gtM_i, geM_i, addM, Option.bind_some, Option.bind_none, Option.map_some, Option.map_none, List.length_cons, List.length_nil, List.getElem?_cons_zero, List.getElem?_cons_succ, List.set_cons_zero, List.set_cons_succ, List.cons_append, List.nil_append, List.append_nil, List.replicate, if_true, if_false, Nat.reduceAdd, Nat.reduceSub, Nat.reduceLeDiff, Nat.reduceEqDiff, reduceIte, Bool.false_eq_true, reduceCtorEq, Bool.not_true, Bool.not_false, decide_true, decide_false, id, isiM, tyName, show kitB "list" "list" = some true from by decide +kernel, neM_int, and_self, e]
theorem words_like {ws : List Wd} (h : ∀ w ∈ ws, Sm 31 w) : rows_like_l_m [.d (.list (datas ws)), .d (.list (datas ws))] = .ret (.bool true) [] :=
  rows_like_fn (lk_datas fun w hw => (word_lk 31 w (h w hw).2 (h w hw).1).mono (by decide))
/-! the drawn form -/
theorem atom_fn {x0 x1 x2 : Str} (h0 : Nm x0) (h1 : Nm x1) (h2 : Nm x2) (i : Int) : ∃ w, atom_l_m [.d (.int i), .d (nmD x0 x1 x2)] = .ret w.data [] ∧ Ok w ∧ w.lay ≤ 3 ∧ kn w ≤ 4 := by
  have m3 := mod_ok (i := i) (j := 3) (by decide)
  have i0 : ixM (nmD x0 x1 x2) (.int 0) = some (.str x0) := rfl
  have i1 : ixM (nmD x0 x1 x2) (.int 1) = some (.str x1) := rfl
  have i2 : ixM (nmD x0 x1 x2) (.int 2) = some (.str x2) := rfl
  by_cases c1 : i % 3 = 1
  · refine ⟨.same (.var i) (.fn x0 []), ?_, ?_, by simp [lay, lays], by simp [kn, kns]⟩
    · simp only [atom_l_m, atom_l_b, runF, sSeq, sIf, sRet, sAsg, sNew, sApp, sSkip_ap, sFor, sForZ, mCall, mCons, mNil, mV, mVA, mC, mBin, mUn, mTest, mAndT, mOrT, mNotT, mAnd, mOr, mNot, mBl, bl?, mIf, mTup, mLst, mSl, mSome, mNo, mComp, mIt, mItB, mR1, mR2, mR1c, mZ, mZB, mYes, mkArgs, outs, itemsOf, isO, listM, tupleM, lenM, intM, subM_i, ltM_i, leM_i, gtM_i, geM_i, addM, Option.bind_some, Option.bind_none, Option.map_some, Option.map_none, List.length_cons, List.length_nil, List.getElem?_cons_zero, List.getElem?_cons_succ, List.set_cons_zero, List.set_cons_succ, List.cons_append, List.nil_append, List.append_nil, List.replicate, if_true, if_false, Nat.reduceAdd, Nat.reduceSub, Nat.reduceLeDiff, Nat.reduceEqDiff, reduceIte, Bool.false_eq_true, reduceCtorEq, Bool.not_true, Bool.not_false, decide_true, decide_false, id, m3, eqM_int, decide_eq_true c1, i0]
      rfl
    · intro y hy; simp [names, namess] at hy; rw [hy]; exact h0.ok
  · by_cases c2 : i % 3 = 2
    · refine ⟨.all (.rel x1 [.var i, .var 0]), ?_, ?_, by simp [lay, lays], by simp [kn, kns]⟩
      · simp only [atom_l_m, atom_l_b, runF, sSeq, sIf, sRet, sAsg, sNew, sApp, sSkip_ap, sFor, sForZ, mCall, mCons, mNil, mV, mVA, mC, mBin, mUn, mTest, mAndT, mOrT, mNotT, mAnd, mOr, mNot, mBl, bl?, mIf, mTup, mLst, mSl, mSome, mNo, mComp, mIt, mItB, mR1, mR2, mR1c, mZ, mZB, mYes, mkArgs, outs, itemsOf, isO, listM, tupleM, lenM, intM, subM_i, ltM_i, leM_i, gtM_i, geM_i, addM, Option.bind_some, Option.bind_none, Option.map_some, Option.map_none, List.length_cons, List.length_nil, List.getElem?_cons_zero, List.getElem?_cons_succ, List.set_cons_zero, List.set_cons_succ, List.cons_append, List.nil_append, List.append_nil, List.replicate, if_true, if_false, Nat.reduceAdd, Nat.reduceSub, Nat.reduceLeDiff, Nat.reduceEqDiff, reduceIte, Bool.false_eq_true, reduceCtorEq, Bool.not_true, Bool.not_false, decide_true, decide_false, id, m3, eqM_int, decide_eq_false c1, decide_eq_true c2, i1]
        rfl
      · intro y hy; simp [names, namess] at hy; rw [hy]; exact h1.ok
    · refine ⟨.rel x2 [.var i], ?_, ?_, by simp [lay, lays], by simp [kn, kns]⟩
      · simp only [atom_l_m, atom_l_b, runF, sSeq, sIf, sRet, sAsg, sNew, sApp, sSkip_ap, sFor, sForZ, mCall, mCons, mNil, mV, mVA, mC, mBin, mUn, mTest, mAndT, mOrT, mNotT, mAnd, mOr, mNot, mBl, bl?, mIf, mTup, mLst, mSl, mSome, mNo, mComp, mIt, mItB, mR1, mR2, mR1c, mZ, mZB, mYes, mkArgs, outs, itemsOf, isO, listM, tupleM, lenM, intM, subM_i, ltM_i, leM_i, gtM_i, geM_i, addM, Option.bind_some, Option.bind_none, Option.map_some, Option.map_none, List.length_cons, List.length_nil, List.getElem?_cons_zero, List.getElem?_cons_succ, List.set_cons_zero, List.set_cons_succ, List.cons_append, List.nil_append, List.append_nil, List.replicate, if_true, if_false, Nat.reduceAdd, Nat.reduceSub, Nat.reduceLeDiff, Nat.reduceEqDiff, reduceIte, Bool.false_eq_true, reduceCtorEq, Bool.not_true, Bool.not_false, decide_true, decide_false, id, m3, eqM_int, decide_eq_false c1, decide_eq_false c2, i2]
        rfl
      · intro y hy; simp [names, namess] at hy; rw [hy]; exact h2.ok
theorem plain_fn {x0 x1 x2 : Str} (h0 : Nm x0) (h1 : Nm x1) (h2 : Nm x2) {many : Int} (hm : 0 < many) : ∀ (d n : Nat) (seed : Int), d + 1 ≤ n → ∃ w, plain_l_m n [.d (.int seed), .d (.int (d : Int)), .d (nmD x0 x1 x2), .d (.int many)] = .ret w.data [] ∧ Ok w ∧ w.lay ≤ d + 3 ∧ kn w + 1 ≤ 5 * 2 ^ d
  | d, 0, seed, h => by omega
  | d, n + 1, seed, h => by
    have m5 := mod_ok (i := seed) (j := 5) (by decide)
    have d5 := div_ok (i := seed) (j := 5) (by decide) (by decide)
    have m56 := mod_ok (i := seed / 5) (j := 6) (by decide)
    have d30 := div_ok (i := seed) (j := 30) (by decide) (by decide)
    have mm := mod_ok (i := seed / 30) (j := many) hm
    have hp := Nat.pow_pos (n := d) (show 0 < 2 by decide)
    by_cases c : (d : Int) = 0 ∨ seed % 5 = 0
    · by_cases c6 : seed / 5 % 6 = 0
      · refine ⟨.no, ?_, by intro y hy; simp [names] at hy, by simp [lay], by rw [kn]; omega⟩
        by_cases cd : (d : Int) = 0
        · simp only [plain_l_m, plain_l_b, runF, sSeq, sIf, sRet, sAsg, sNew, sApp, sSkip_ap, sFor, sForZ, mCall, mCons, mNil, mV, mVA, mC, mBin, mUn, mTest, mAndT, mOrT, mNotT, mAnd, mOr, mNot, mBl, bl?, mIf, mTup, mLst, mSl, mSome, mNo, mComp, mIt, mItB, mR1, mR2, mR1c, mZ, mZB, mYes, mkArgs, outs, itemsOf, isO, listM, tupleM, lenM, intM, subM_i, ltM_i, leM_i, gtM_i, geM_i, addM, Option.bind_some, Option.bind_none, Option.map_some, Option.map_none, List.length_cons, List.length_nil, List.getElem?_cons_zero, List.getElem?_cons_succ, List.set_cons_zero, List.set_cons_succ, List.cons_append, List.nil_append, List.append_nil, List.replicate, if_true, if_false, Nat.reduceAdd, Nat.reduceSub, Nat.reduceLeDiff, Nat.reduceEqDiff, reduceIte, Bool.false_eq_true, reduceCtorEq, Bool.not_true, Bool.not_false, decide_true, decide_false, id, eqM_int, decide_eq_true cd, m5, d5, m56, decide_eq_true c6]
          rfl
        · simp only [plain_l_m, plain_l_b, runF, sSeq, sIf, sRet, sAsg, sNew, sApp, sSkip_ap, sFor, sForZ, mCall, mCons, mNil, mV, mVA, mC, mBin, mUn, mTest, mAndT, mOrT, mNotT, mAnd, mOr, mNot, mBl, bl?, mIf, mTup, mLst, mSl, mSome, mNo, mComp, mIt, mItB, mR1, mR2, mR1c, mZ, mZB, mYes, mkArgs, outs, itemsOf, isO, listM, tupleM, lenM, intM, subM_i, ltM_i, leM_i, gtM_i, geM_i, addM, Option.bind_some, Option.bind_none, Option.map_some, Option.map_none, List.length_cons, List.length_nil, List.getElem?_cons_zero, List.getElem?_cons_succ, List.set_cons_zero, List.set_cons_succ, List.cons_append, List.nil_append, List.append_nil, List.replicate, if_true, if_false, Nat.reduceAdd, Nat.reduceSub, Nat.reduceLeDiff, Nat.reduceEqDiff, reduceIte, Bool.false_eq_true, reduceCtorEq, Bool.not_true, Bool.not_false, decide_true, decide_false, id, eqM_int, decide_eq_false cd, m5, decide_eq_true (c.resolve_left cd), d5, m56, decide_eq_true c6]
          rfl
      · obtain ⟨w, ew, hw1, hw2, hw3⟩ := atom_fn h0 h1 h2 (seed / 30 % many)
        refine ⟨w, ?_, hw1, by omega, by omega⟩
        by_cases cd : (d : Int) = 0
        · simp only [plain_l_m, plain_l_b, runF, sSeq, sIf, sRet, sAsg, sNew, sApp, sSkip_ap, sFor, sForZ, mCall, mCons, mNil, mV, mVA, mC, mBin, mUn, mTest, mAndT, mOrT, mNotT, mAnd, mOr, mNot, mBl, bl?, mIf, mTup, mLst, mSl, mSome, mNo, mComp, mIt, mItB, mR1, mR2, mR1c, mZ, mZB, mYes, mkArgs, outs, itemsOf, isO, listM, tupleM, lenM, intM, subM_i, ltM_i, leM_i, gtM_i, geM_i, addM, Option.bind_some, Option.bind_none, Option.map_some, Option.map_none, List.length_cons, List.length_nil, List.getElem?_cons_zero, List.getElem?_cons_succ, List.set_cons_zero, List.set_cons_succ, List.cons_append, List.nil_append, List.append_nil, List.replicate, if_true, if_false, Nat.reduceAdd, Nat.reduceSub, Nat.reduceLeDiff, Nat.reduceEqDiff, reduceIte, Bool.false_eq_true, reduceCtorEq, Bool.not_true, Bool.not_false, decide_true, decide_false, id, eqM_int, decide_eq_true cd, m5, d5, m56, decide_eq_false c6, d30, mm, ew]
        · simp only [plain_l_m, plain_l_b, runF, sSeq, sIf, sRet, sAsg, sNew, sApp, sSkip_ap, sFor, sForZ, mCall, mCons, mNil, mV, mVA, mC, mBin, mUn, mTest, mAndT, mOrT, mNotT, mAnd, mOr, mNot, mBl, bl?, mIf, mTup, mLst, mSl, mSome, mNo, mComp, mIt, mItB, mR1, mR2, mR1c, mZ, mZB, mYes, mkArgs, outs, itemsOf, isO, listM, tupleM, lenM, intM, subM_i, ltM_i, leM_i, gtM_i, geM_i, addM, Option.bind_some, Option.bind_none, Option.map_some, Option.map_none, List.length_cons, List.length_nil, List.getElem?_cons_zero, List.getElem?_cons_succ, List.set_cons_zero, List.set_cons_succ, List.cons_append, List.nil_append, List.append_nil, List.replicate, if_true, if_false, Nat.reduceAdd, Nat.reduceSub, Nat.reduceLeDiff, Nat.reduceEqDiff, reduceIte, Bool.false_eq_true, reduceCtorEq, Bool.not_true, Bool.not_false, decide_true, decide_false, id, eqM_int, decide_eq_false cd, m5, decide_eq_true (c.resolve_left cd), d5, m56, decide_eq_false c6, d30, mm, ew]
    · have cd : ¬ (d : Int) = 0 := fun z => c (.inl z)
      have c5 : ¬ seed % 5 = 0 := fun z => c (.inr z)
      match d, cd, h with
      | d + 1, cd, h => ?_
      have hsub : ((d + 1 : Nat) : Int) - 1 = (d : Int) := by omega
      obtain ⟨r0, _, p0⟩ := part_fn seed 0
      obtain ⟨r1, _, p1⟩ := part_fn seed 1
      obtain ⟨wa, ea, a1, a2, a3⟩ := plain_fn h0 h1 h2 hm d n r0 (by omega)
      obtain ⟨wb, eb, b1, b2, b3⟩ := plain_fn h0 h1 h2 hm d n r1 (by omega)
      refine ⟨.iff wa wb, ?_, ?_, by rw [lay]; omega, by rw [kn, Nat.pow_succ]; omega⟩
      · simp only [plain_l_m, plain_l_b, runF, sSeq, sIf, sRet, sAsg, sNew, sApp, sSkip_ap, sFor, sForZ, mCall, mCons, mNil, mV, mVA, mC, mBin, mUn, mTest, mAndT, mOrT, mNotT, mAnd, mOr, mNot, mBl, bl?, mIf, mTup, mLst, mSl, mSome, mNo, mComp, mIt, mItB, mR1, mR2, mR1c, mZ, mZB, mYes, mkArgs, outs, itemsOf, isO, listM, tupleM, lenM, intM, subM_i, ltM_i, leM_i, gtM_i, geM_i, addM, Option.bind_some, Option.bind_none, Option.map_some, Option.map_none, List.length_cons, List.length_nil, List.getElem?_cons_zero, List.getElem?_cons_succ, List.set_cons_zero, List.set_cons_succ, List.cons_append, List.nil_append, List.append_nil, List.replicate, if_true, if_false, Nat.reduceAdd, Nat.reduceSub, Nat.reduceLeDiff, Nat.reduceEqDiff, reduceIte, Bool.false_eq_true, reduceCtorEq, Bool.not_true, Bool.not_false, decide_true, decide_false, id, eqM_int, decide_eq_false cd, m5, decide_eq_false c5, p0, p1, hsub, ea, eb]
        rfl
      · intro y hy
        rw [names] at hy
        rcases List.mem_append.mp hy with hy | hy
        · exact a1 y hy
        · exact b1 y hy
theorem canLay_bools (r : List Bool) : (bools r).canLay0 = true ∧ (bools r).depth ≤ 1 := by
  unfold bools
  rw [PyData.canLay0, PyData.depth]
  induction r with
  | nil => exact ⟨rfl, by simp [PyData.depthAll]⟩
  | cons b r ih =>
    rw [List.map_cons, PyData.canLayAll0, PyData.depthAll, ih.1]
    refine ⟨rfl, ?_⟩
    have := ih.2
    simp only [PyData.depth]
    omega
theorem eqM_bools (r : List Bool) : eqM (bools r) (bools r) = some (.bool true) := by
  obtain ⟨h1, h2⟩ := canLay_bools r
  unfold eqM
  rw [if_pos ⟨h1, h1, by omega⟩, SeqAt.eqv_refl _ h1]
theorem law_k08_true (ns : List Int) (_ : ns.length ≤ 63) : ∃ obs, law_k08_m [.b (ns.map .int)] = .ret (.bool true) obs := by
  obtain ⟨c0, e0⟩ := cell_fn ns (i := 0) (by decide)
  obtain ⟨c1, e1⟩ := cell_fn ns (i := 1) (by decide)
  obtain ⟨c2, e2⟩ := cell_fn ns (i := 2) (by decide)
  obtain ⟨c3, e3⟩ := cell_fn ns (i := 3) (by decide)
  obtain ⟨a, b, d, en, ha, hb, hd⟩ := names_fn c0
  have m25 := mod_ok (i := c2) (j := 5) (by decide)
  obtain ⟨f, ef, hf1, hf2, hf3⟩ := plain_fn ha hb hd (many := 1 + c2 % 5) (by omega) 4 70 (nextI c1) (by decide)
  rw [show ((4 : Nat) : Int) = 4 from rfl] at ef
  have m3 := mod_ok (i := c3) (j := 5) (by decide)
  refine law_yes ?_
  refine Ends.nx (by simp only [runF, sSeq, sIf, sRet, sAsg, sNew, sApp, sSkip_ap, sFor, sForZ, mCall, mCons, mNil, mV, mVA, mC, mBin, mUn, mTest, mAndT, mOrT, mNotT, mAnd, mOr, mNot, mBl, bl?, mIf, mTup, mLst, mSl, mSome, mNo, mComp, mIt, mItB, mR1, mR2, mR1c, mZ, mZB, mYes, mkArgs, outs, itemsOf, isO, listM, tupleM, lenM, intM, subM_i, ltM_i, leM_i, gtM_i, geM_i, addM, Option.bind_some, Option.bind_none, Option.map_some, Option.map_none, List.length_cons, List.length_nil, List.getElem?_cons_zero, List.getElem?_cons_succ, List.set_cons_zero, List.set_cons_succ, List.cons_append, List.nil_append, List.append_nil, List.replicate, if_true, if_false, Nat.reduceAdd, Nat.reduceSub, Nat.reduceLeDiff, Nat.reduceEqDiff, reduceIte, Bool.false_eq_true, reduceCtorEq, Bool.not_true, Bool.not_false, decide_true, decide_false, id, e0, en]; rfl) ?_
  refine Ends.nx (by simp only [runF, sSeq, sIf, sRet, sAsg, sNew, sApp, sSkip_ap, sFor, sForZ, mCall, mCons, mNil, mV, mVA, mC, mBin, mUn, mTest, mAndT, mOrT, mNotT, mAnd, mOr, mNot, mBl, bl?, mIf, mTup, mLst, mSl, mSome, mNo, mComp, mIt, mItB, mR1, mR2, mR1c, mZ, mZB, mYes, mkArgs, outs, itemsOf, isO, listM, tupleM, lenM, intM, subM_i, ltM_i, leM_i, gtM_i, geM_i, addM, Option.bind_some, Option.bind_none, Option.map_some, Option.map_none, List.length_cons, List.length_nil, List.getElem?_cons_zero, List.getElem?_cons_succ, List.set_cons_zero, List.set_cons_succ, List.cons_append, List.nil_append, List.append_nil, List.replicate, if_true, if_false, Nat.reduceAdd, Nat.reduceSub, Nat.reduceLeDiff, Nat.reduceEqDiff, reduceIte, Bool.false_eq_true, reduceCtorEq, Bool.not_true, Bool.not_false, decide_true, decide_false, id, e1, next_fn, e2, m25, ef]; rfl) ?_
  refine Ends.go (fun ρ => ∃ w k, ρ = [.b (ns.map .int), .d (nmD a b d), .d w.data, .nil, .nil, .nil, .nil, k] ∧ isO (some k) = false ∧ Sm 31 w ∧ kn w ≤ 200) ?_ ?_
  · refine Ends.ite (c := decide (c3 % 5 = 1)) (by simp only [runF, sSeq, sIf, sRet, sAsg, sNew, sApp, sSkip_ap, sFor, sForZ, mCall, mCons, mNil, mV, mVA, mC, mBin, mUn, mTest, mAndT, mOrT, mNotT, mAnd, mOr, mNot, mBl, bl?, mIf, mTup, mLst, mSl, mSome, mNo, mComp, mIt, mItB, mR1, mR2, mR1c, mZ, mZB, mYes, mkArgs, outs, itemsOf, isO, listM, tupleM, lenM, intM, subM_i, ltM_i, leM_i, gtM_i, geM_i, addM, Option.bind_some, Option.bind_none, Option.map_some, Option.map_none, List.length_cons, List.length_nil, List.getElem?_cons_zero, List.getElem?_cons_succ, List.set_cons_zero, List.set_cons_succ, List.cons_append, List.nil_append, List.append_nil, List.replicate, if_true, if_false, Nat.reduceAdd, Nat.reduceSub, Nat.reduceLeDiff, Nat.reduceEqDiff, reduceIte, Bool.false_eq_true, reduceCtorEq, Bool.not_true, Bool.not_false, decide_true, decide_false, id, e3, m3, eqM_int]) (fun hc => ?_) (fun _ => ⟨_, rfl, f, _, rfl, rfl, ⟨hf1, by omega⟩, by omega⟩)
    refine Ends.forR (lo := 0) (n := (6 + c3 / 5 % 5).toNat) (fun j ρ => ∃ w k, ρ = [.b (ns.map .int), .d (nmD a b d), .d w.data, .nil, .nil, .nil, .nil, k] ∧ isO (some k) = false ∧ Ok w ∧ w.lay ≤ 7 + j ∧ kn w ≤ 100 + 5 * j) ?_ ⟨f, _, rfl, rfl, hf1, by omega, by omega⟩ ?_ ?_
    · simp only [runF, sSeq, sIf, sRet, sAsg, sNew, sApp, sSkip_ap, sFor, sForZ, mCall, mCons, mNil, mV, mVA, mC, mBin, mUn, mTest, mAndT, mOrT, mNotT, mAnd, mOr, mNot, mBl, bl?, mIf, mTup, mLst, mSl, mSome, mNo, mComp, mIt, mItB, mR1, mR2, mR1c, mZ, mZB, mYes, mkArgs, outs, itemsOf, isO, listM, tupleM, lenM, intM, subM_i, ltM_i, leM_i, gtM_i, geM_i, addM, Option.bind_some, Option.bind_none, Option.map_some, Option.map_none, List.length_cons, List.length_nil, List.getElem?_cons_zero, List.getElem?_cons_succ, List.set_cons_zero, List.set_cons_succ, List.cons_append, List.nil_append, List.append_nil, List.replicate, if_true, if_false, Nat.reduceAdd, Nat.reduceSub, Nat.reduceLeDiff, Nat.reduceEqDiff, reduceIte, Bool.false_eq_true, reduceCtorEq, Bool.not_true, Bool.not_false, decide_true, decide_false, id, e3, div_ok (i := c3) (j := 5) (by decide) (by decide), mod_ok (i := c3 / 5) (j := 5) (by decide)]
      rw [if_pos (by omega)]
    · rintro j ρ hj ⟨w, k, rfl, hk, h1, h2, h3⟩
      obtain ⟨u, eu, u1, u2, u3⟩ := atom_fn ha hb hd ((0 + (j : Int) + c2) % 10)
      refine ⟨hk, Ends.last (o := .nx [.b (ns.map .int), .d (nmD a b d), .d (Wd.iff u w).data, .nil, .nil, .nil, .nil, .d (.int (0 + (j : Int)))]) ?_ ⟨_, rfl, _, _, rfl, rfl, ?_, ?_, ?_⟩⟩
      · simp only [runF, sSeq, sIf, sRet, sAsg, sNew, sApp, sSkip_ap, sFor, sForZ, mCall, mCons, mNil, mV, mVA, mC, mBin, mUn, mTest, mAndT, mOrT, mNotT, mAnd, mOr, mNot, mBl, bl?, mIf, mTup, mLst, mSl, mSome, mNo, mComp, mIt, mItB, mR1, mR2, mR1c, mZ, mZB, mYes, mkArgs, outs, itemsOf, isO, listM, tupleM, lenM, intM, subM_i, ltM_i, leM_i, gtM_i, geM_i, addM, Option.bind_some, Option.bind_none, Option.map_some, Option.map_none, List.length_cons, List.length_nil, List.getElem?_cons_zero, List.getElem?_cons_succ, List.set_cons_zero, List.set_cons_succ, List.cons_append, List.nil_append, List.append_nil, List.replicate, if_true, if_false, Nat.reduceAdd, Nat.reduceSub, Nat.reduceLeDiff, Nat.reduceEqDiff, reduceIte, Bool.false_eq_true, reduceCtorEq, Bool.not_true, Bool.not_false, decide_true, decide_false, id, e2, mod_ok (i := 0 + (j : Int) + c2) (j := 10) (by decide), eu]
        rfl
      · intro y hy
        rw [names] at hy
        rcases List.mem_append.mp hy with hy | hy
        · exact u1 y hy
        · exact h1 y hy
      · rw [lay]; omega
      · rw [kn]; omega
    · rintro ρ ⟨w, k, rfl, hk, h1, h2, h3⟩
      exact ⟨_, rfl, w, k, rfl, hk, ⟨h1, by omega⟩, by omega⟩
  rintro ρ ⟨w, k, rfl, hk, hw, hz⟩
  have em := met_fn 70 w [] (Nat.le_trans hw.2 (by decide)) ⟨hw.1, Nat.le_trans hw.2 (by decide)⟩ (by simp) (by simp; omega)
  have ea := atoms_fn w ⟨hw.1, Nat.le_trans hw.2 (by decide)⟩ (by omega)
  have hsm := atomsL_sm (n := 31) (L := []) (by simp) hw
  have hlk := words_like hsm
  have hh := has_atoms w [] hw.1
  have hlarge : 8 < (atomsL w []).length → refuter_m [.d w.data] = .ex "TooLarge" [] := refuter_large hw (by omega)
  have hsmall : (atomsL w []).length ≤ 8 → refuter_m [.d w.data] = .ret (optRow (refuteB (atomsL w []) w)) [] := refuter_fn hw (by omega)
  generalize atomsL w [] = met at *
  have em' : met_l_m 70 [.d w.data, .d (.list [])] = .ret (.list (datas met)) [] := em
  refine Ends.nx (by simp only [runF, sSeq, sIf, sRet, sAsg, sNew, sApp, sSkip_ap, sFor, sForZ, mCall, mCons, mNil, mV, mVA, mC, mBin, mUn, mTest, mAndT, mOrT, mNotT, mAnd, mOr, mNot, mBl, bl?, mIf, mTup, mLst, mSl, mSome, mNo, mComp, mIt, mItB, mR1, mR2, mR1c, mZ, mZB, mYes, mkArgs, outs, itemsOf, isO, listM, tupleM, lenM, intM, subM_i, ltM_i, leM_i, gtM_i, geM_i, addM, Option.bind_some, Option.bind_none, Option.map_some, Option.map_none, List.length_cons, List.length_nil, List.getElem?_cons_zero, List.getElem?_cons_succ, List.set_cons_zero, List.set_cons_succ, List.cons_append, List.nil_append, List.append_nil, List.replicate, if_true, if_false, Nat.reduceAdd, Nat.reduceSub, Nat.reduceLeDiff, Nat.reduceEqDiff, reduceIte, Bool.false_eq_true, reduceCtorEq, Bool.not_true, Bool.not_false, decide_true, decide_false, id, em']; rfl) ?_
  refine Ends.nx (by simp only [runF, sSeq, sIf, sRet, sAsg, sNew, sApp, sSkip_ap, sFor, sForZ, mCall, mCons, mNil, mV, mVA, mC, mBin, mUn, mTest, mAndT, mOrT, mNotT, mAnd, mOr, mNot, mBl, bl?, mIf, mTup, mLst, mSl, mSome, mNo, mComp, mIt, mItB, mR1, mR2, mR1c, mZ, mZB, mYes, mkArgs, outs, itemsOf, isO, listM, tupleM, lenM, intM, subM_i, ltM_i, leM_i, gtM_i, geM_i, addM, Option.bind_some, Option.bind_none, Option.map_some, Option.map_none, List.length_cons, List.length_nil, List.getElem?_cons_zero, List.getElem?_cons_succ, List.set_cons_zero, List.set_cons_succ, List.cons_append, List.nil_append, List.append_nil, List.replicate, if_true, if_false, Nat.reduceAdd, Nat.reduceSub, Nat.reduceLeDiff, Nat.reduceEqDiff, reduceIte, Bool.false_eq_true, reduceCtorEq, Bool.not_true, Bool.not_false, decide_true, decide_false, id, ea, hlk]; rfl) ?_
  by_cases hl : 8 < met.length
  · have hg : (8 : Int) < ((datas met).length : Int) := by rw [datas_len]; omega
    have e5 := large_fn (hlarge hl)
    refine Ends.seq (.last (o := .rt (.bool true) _) (by simp only [runF, sSeq, sIf, sRet, sAsg, sNew, sApp, sSkip_ap, sFor, sForZ, mCall, mCons, mNil, mV, mVA, mC, mBin, mUn, mTest, mAndT, mOrT, mNotT, mAnd, mOr, mNot, mBl, bl?, mIf, mTup, mLst, mSl, mSome, mNo, mComp, mIt, mItB, mR1, mR2, mR1c, mZ, mZB, mYes, mkArgs, outs, itemsOf, isO, listM, tupleM, lenM, intM, subM_i, ltM_i, leM_i, gtM_i, geM_i, addM, Option.bind_some, Option.bind_none, Option.map_some, Option.map_none, List.length_cons, List.length_nil, List.getElem?_cons_zero, List.getElem?_cons_succ, List.set_cons_zero, List.set_cons_succ, List.cons_append, List.nil_append, List.append_nil, List.replicate, if_true, if_false, Nat.reduceAdd, Nat.reduceSub, Nat.reduceLeDiff, Nat.reduceEqDiff, reduceIte, Bool.false_eq_true, reduceCtorEq, Bool.not_true, Bool.not_false, decide_true, decide_false, id, decide_eq_true hg, e5]; rfl) (.inr ⟨(by intro ρ z; cases z), ⟨_, rfl⟩⟩))
  · have hg : ¬ (8 : Int) < ((datas met).length : Int) := by rw [datas_len]; omega
    have e5 := first_fn8 hsm (by omega) hw hh 70 met.length [] (by omega) (by simp)
    have e5' : first_l_m 70 [.d w.data, .d (.list (datas met)), .d (.list [])] = .ret (optRow (refuteB met w)) [] := by
      rw [show Sl.d (.list []) = Sl.d (bools []) from rfl, e5]
      rw [rows_same]
      show FOut.ret (optRow (((rowsN met.length).find? fun r => !soB met r w).map fun r => r)) [] = _
      unfold refuteB
      cases (rowsN met.length).find? fun r => !soB met r w <;> rfl
    have e6 := hsmall (by omega)
    refine Ends.nx (by simp only [runF, sSeq, sIf, sRet, sAsg, sNew, sApp, sSkip_ap, sFor, sForZ, mCall, mCons, mNil, mV, mVA, mC, mBin, mUn, mTest, mAndT, mOrT, mNotT, mAnd, mOr, mNot, mBl, bl?, mIf, mTup, mLst, mSl, mSome, mNo, mComp, mIt, mItB, mR1, mR2, mR1c, mZ, mZB, mYes, mkArgs, outs, itemsOf, isO, listM, tupleM, lenM, intM, subM_i, ltM_i, leM_i, gtM_i, geM_i, addM, Option.bind_some, Option.bind_none, Option.map_some, Option.map_none, List.length_cons, List.length_nil, List.getElem?_cons_zero, List.getElem?_cons_succ, List.set_cons_zero, List.set_cons_succ, List.cons_append, List.nil_append, List.append_nil, List.replicate, if_true, if_false, Nat.reduceAdd, Nat.reduceSub, Nat.reduceLeDiff, Nat.reduceEqDiff, reduceIte, Bool.false_eq_true, reduceCtorEq, Bool.not_true, Bool.not_false, decide_true, decide_false, id, decide_eq_false hg]; rfl) ?_
    refine Ends.nx (by simp only [runF, sSeq, sIf, sRet, sAsg, sNew, sApp, sSkip_ap, sFor, sForZ, mCall, mCons, mNil, mV, mVA, mC, mBin, mUn, mTest, mAndT, mOrT, mNotT, mAnd, mOr, mNot, mBl, bl?, mIf, mTup, mLst, mSl, mSome, mNo, mComp, mIt, mItB, mR1, mR2, mR1c, mZ, mZB, mYes, mkArgs, outs, itemsOf, isO, listM, tupleM, lenM, intM, subM_i, ltM_i, leM_i, gtM_i, geM_i, addM, Option.bind_some, Option.bind_none, Option.map_some, Option.map_none, List.length_cons, List.length_nil, List.getElem?_cons_zero, List.getElem?_cons_succ, List.set_cons_zero, List.set_cons_succ, List.cons_append, List.nil_append, List.append_nil, List.replicate, if_true, if_false, Nat.reduceAdd, Nat.reduceSub, Nat.reduceLeDiff, Nat.reduceEqDiff, reduceIte, Bool.false_eq_true, reduceCtorEq, Bool.not_true, Bool.not_false, decide_true, decide_false, id, e5']; rfl) ?_
    refine Ends.nx (ρ' := [.b (ns.map .int), .d (nmD a b d), .d w.data, .d (.list (datas met)), .d (optRow (refuteB met w)), .d (optRow (refuteB met w)), .nil, k]) (by simp only [runF, sSeq, sIf, sRet, sAsg, sNew, sApp, sSkip_ap, sFor, sForZ, mCall, mCons, mNil, mV, mVA, mC, mBin, mUn, mTest, mAndT, mOrT, mNotT, mAnd, mOr, mNot, mBl, bl?, mIf, mTup, mLst, mSl, mSome, mNo, mComp, mIt, mItB, mR1, mR2, mR1c, mZ, mZB, mYes, mkArgs, outs, itemsOf, isO, listM, tupleM, lenM, intM, subM_i, ltM_i, leM_i, gtM_i, geM_i, addM, Option.bind_some, Option.bind_none, Option.map_some, Option.map_none, List.length_cons, List.length_nil, List.getElem?_cons_zero, List.getElem?_cons_succ, List.set_cons_zero, List.set_cons_succ, List.cons_append, List.nil_append, List.append_nil, List.replicate, if_true, if_false, Nat.reduceAdd, Nat.reduceSub, Nat.reduceLeDiff, Nat.reduceEqDiff, reduceIte, Bool.false_eq_true, reduceCtorEq, Bool.not_true, Bool.not_false, decide_true, decide_false, id, xE, xCall, xNil, xCons, xSlot, xTup, xUn, xBin, xOut, xFin, slsOf, slOf, dsOf, putB, xT, xTest, xAndT, xOrT, xNotT, sAsgX, sRetX, sDoX, sIfX, sAppX, sExc, sTry, sHds, noEx, sTryAs, wipeO, mIsE, sFz, sPop, negM, mChain, List.nodup_nil, List.all_nil, Bool.and_true, Bool.true_and, e6, okA_d, isO]) ?_
    cases refuteB met w with
    | none =>
      refine Ends.seq (.last (o := .rt (.bool true) _) (by simp only [runF, sSeq, sIf, sRet, sAsg, sNew, sApp, sSkip_ap, sFor, sForZ, mCall, mCons, mNil, mV, mVA, mC, mBin, mUn, mTest, mAndT, mOrT, mNotT, mAnd, mOr, mNot, mBl, bl?, mIf, mTup, mLst, mSl, mSome, mNo, mComp, mIt, mItB, mR1, mR2, mR1c, mZ, mZB, mYes, mkArgs, outs, itemsOf, isO, listM, tupleM, lenM, intM, subM_i, ltM_i, leM_i, gtM_i, geM_i, addM, Option.bind_some, Option.bind_none, Option.map_some, Option.map_none, List.length_cons, List.length_nil, List.getElem?_cons_zero, List.getElem?_cons_succ, List.set_cons_zero, List.set_cons_succ, List.cons_append, List.nil_append, List.append_nil, List.replicate, if_true, if_false, Nat.reduceAdd, Nat.reduceSub, Nat.reduceLeDiff, Nat.reduceEqDiff, reduceIte, Bool.false_eq_true, reduceCtorEq, Bool.not_true, Bool.not_false, decide_true, decide_false, id, optRow, isNM, PL.isNo]; rfl) (.inr ⟨(by intro ρ z; cases z), ⟨_, rfl⟩⟩))
    | some r =>
      have i1 : isNM false (bools r) .none = some (.bool false) := rfl
      have i2 : isiM "list" (bools r) = some (.bool true) := by
        show (kitB "list" "list").map PyData.bool = _
        rw [show kitB "list" "list" = some true from by decide +kernel]; rfl
      have i3 : lenM (bools r) = some (.int (r.length : Int)) := by simp only [lenM, bools, List.length_map]
      refine Ends.nx (by simp only [runF, sSeq, sIf, sRet, sAsg, sNew, sApp, sSkip_ap, sFor, sForZ, mCall, mCons, mNil, mV, mVA, mC, mBin, mUn, mTest, mAndT, mOrT, mNotT, mAnd, mOr, mNot, mBl, bl?, mIf, mTup, mLst, mSl, mSome, mNo, mComp, mIt, mItB, mR1, mR2, mR1c, mZ, mZB, mYes, mkArgs, outs, itemsOf, isO, listM, tupleM, lenM, intM, subM_i, ltM_i, leM_i, gtM_i, geM_i, addM, Option.bind_some, Option.bind_none, Option.map_some, Option.map_none, List.length_cons, List.length_nil, List.getElem?_cons_zero, List.getElem?_cons_succ, List.set_cons_zero, List.set_cons_succ, List.cons_append, List.nil_append, List.append_nil, List.replicate, if_true, if_false, Nat.reduceAdd, Nat.reduceSub, Nat.reduceLeDiff, Nat.reduceEqDiff, reduceIte, Bool.false_eq_true, reduceCtorEq, Bool.not_true, Bool.not_false, decide_true, decide_false, id, optRow, i1]; rfl) ?_
      refine Ends.nx (by simp only [runF, sSeq, sIf, sRet, sAsg, sNew, sApp, sSkip_ap, sFor, sForZ, mCall, mCons, mNil, mV, mVA, mC, mBin, mUn, mTest, mAndT, mOrT, mNotT, mAnd, mOr, mNot, mBl, bl?, mIf, mTup, mLst, mSl, mSome, mNo, mComp, mIt, mItB, mR1, mR2, mR1c, mZ, mZB, mYes, mkArgs, outs, itemsOf, isO, listM, tupleM, intM, subM_i, ltM_i, leM_i, gtM_i, geM_i, addM, Option.bind_some, Option.bind_none, Option.map_some, Option.map_none, List.length_cons, List.length_nil, List.getElem?_cons_zero, List.getElem?_cons_succ, List.set_cons_zero, List.set_cons_succ, List.cons_append, List.nil_append, List.append_nil, List.replicate, if_true, if_false, Nat.reduceAdd, Nat.reduceSub, Nat.reduceLeDiff, Nat.reduceEqDiff, reduceIte, Bool.false_eq_true, reduceCtorEq, Bool.not_true, Bool.not_false, decide_true, decide_false, id, optRow, i2, i3, neM_int]; rfl) ?_
      refine Ends.srch (g := PyData.bool) (all := r) (fun ρ => ∃ s, ρ = [.b (ns.map .int), .d (nmD a b d), .d w.data, .d (.list (datas met)), .d (bools r), .d (bools r), s, k] ∧ isO (some s) = false) (fun _ => false) (.bool false) rfl ⟨_, rfl, rfl⟩ ?_ ?_ ?_
      · rintro u hu ρ ⟨s, rfl, hs⟩
        refine ⟨hs, _, ⟨.d (.bool u), rfl, rfl⟩, ?_⟩
        simp only [runF, sSeq, sIf, sRet, sAsg, sNew, sApp, sSkip_ap, sFor, sForZ, mCall, mCons, mNil, mV, mVA, mC, mBin, mUn, mTest, mAndT, mOrT, mNotT, mAnd, mOr, mNot, mBl, bl?, mIf, mTup, mLst, mSl, mSome, mNo, mComp, mIt, mItB, mR1, mR2, mR1c, mZ, mZB, mYes, mkArgs, outs, itemsOf, isO, listM, tupleM, lenM, intM, subM_i, ltM_i, leM_i, gtM_i, geM_i, addM, Option.bind_some, Option.bind_none, Option.map_some, Option.map_none, List.length_cons, List.length_nil, List.getElem?_cons_zero, List.getElem?_cons_succ, List.set_cons_zero, List.set_cons_succ, List.cons_append, List.nil_append, List.append_nil, List.replicate, if_true, if_false, Nat.reduceAdd, Nat.reduceSub, Nat.reduceLeDiff, Nat.reduceEqDiff, reduceIte, Bool.false_eq_true, reduceCtorEq, Bool.not_true, Bool.not_false, decide_true, decide_false, id, isiM, tyName, show kitB "bool" "bool" = some true from by decide +kernel]
      · intro hp; simp at hp
      · rintro hp ρ ⟨s, rfl, hs⟩
        exact Ends.yes (by simp only [runF, sSeq, sIf, sRet, sAsg, sNew, sApp, sSkip_ap, sFor, sForZ, mCall, mCons, mNil, mV, mVA, mC, mBin, mUn, mTest, mAndT, mOrT, mNotT, mAnd, mOr, mNot, mBl, bl?, mIf, mTup, mLst, mSl, mSome, mNo, mComp, mIt, mItB, mR1, mR2, mR1c, mZ, mZB, mYes, mkArgs, outs, itemsOf, isO, listM, tupleM, lenM, intM, subM_i, ltM_i, leM_i, gtM_i, geM_i, addM, Option.bind_some, Option.bind_none, Option.map_some, Option.map_none, List.length_cons, List.length_nil, List.getElem?_cons_zero, List.getElem?_cons_succ, List.set_cons_zero, List.set_cons_succ, List.cons_append, List.nil_append, List.append_nil, List.replicate, if_true, if_false, Nat.reduceAdd, Nat.reduceSub, Nat.reduceLeDiff, Nat.reduceEqDiff, reduceIte, Bool.false_eq_true, reduceCtorEq, Bool.not_true, Bool.not_false, decide_true, decide_false, id, eqM_bools])
end PL

namespace Lw
open PySem PySem.Spec PyProof.Rows L2 PL
def top (i : Nat) : Stmt := PySem.Challenge.pw_surehall_k08_refuter.main.body.getD i (.Pass ⟨0, 0, 0, 0⟩)
def fn : List He.DefD := (([⟨("gone_through", none), "gone_through", "gone_through", defArgs (top 5), defBody (top 5), defScope (top 5), [], []⟩,
  ⟨("atoms", none), "atoms", "atoms", defArgs (top 6), defBody (top 6), defScope (top 6), [], []⟩,
  ⟨("so_under", none), "so_under", "so_under", defArgs (top 7), defBody (top 7), defScope (top 7), [], []⟩,
  ⟨("rows_of", none), "rows_of", "rows_of", defArgs (top 8), defBody (top 8), defScope (top 8), [], []⟩,
  ⟨("refuter", none), "refuter", "refuter", defArgs (top 9), defBody (top 9), defScope (top 9), [], []⟩,
  ⟨("_law_cell_at", none), "_law_cell_at", "_law_cell_at", defArgs (top 11), defBody (top 11), defScope (top 11), [], []⟩,
  ⟨("_law_next", none), "_law_next", "_law_next", defArgs (top 12), defBody (top 12), defScope (top 12), [], []⟩,
  ⟨("_law_part", none), "_law_part", "_law_part", defArgs (top 13), defBody (top 13), defScope (top 13), [], []⟩,
  ⟨("_law_name_by", none), "_law_name_by", "_law_name_by", defArgs (top 14), defBody (top 14), defScope (top 14), [], []⟩,
  ⟨("_law_names_by", none), "_law_names_by", "_law_names_by", defArgs (top 15), defBody (top 15), defScope (top 15), [], []⟩,
  ⟨("_law_like", none), "_law_like", "_law_like", defArgs (top 16), defBody (top 16), defScope (top 16), [], []⟩,
  ⟨("_law_rows_like", none), "_law_rows_like", "_law_rows_like", defArgs (top 17), defBody (top 17), defScope (top 17), [], []⟩,
  ⟨("_law_atom", none), "_law_atom", "_law_atom", defArgs (top 18), defBody (top 18), defScope (top 18), [], []⟩,
  ⟨("_law_plain", none), "_law_plain", "_law_plain", defArgs (top 19), defBody (top 19), defScope (top 19), [], []⟩,
  ⟨("_law_met", none), "_law_met", "_law_met", defArgs (top 20), defBody (top 20), defScope (top 20), [], []⟩,
  ⟨("_law_so", none), "_law_so", "_law_so", defArgs (top 21), defBody (top 21), defScope (top 21), [], []⟩,
  ⟨("_law_first", none), "_law_first", "_law_first", defArgs (top 22), defBody (top 22), defScope (top 22), [], []⟩,
  ⟨("_law_large", none), "_law_large", "_law_large", defArgs (top 23), defBody (top 23), defScope (top 23), [], []⟩,
  ⟨("law", none), "law", "law", defArgs (top 24), defBody (top 24), defScope (top 24), [], []⟩] : List He.DefD))
def fa : List He.Fa := (([.glo "gone_through",
  .glo "atoms",
  .glo "so_under",
  .glo "rows_of",
  .glo "refuter",
  .glo "_law_cell_at",
  .glo "_law_next",
  .glo "_law_part",
  .glo "_law_name_by",
  .glo "_law_names_by",
  .glo "_law_like",
  .glo "_law_rows_like",
  .glo "_law_atom",
  .glo "_law_plain",
  .glo "_law_met",
  .glo "_law_so",
  .glo "_law_first",
  .glo "_law_large",
  .glo "law",
  .free "range",
  .free "len",
  .free "isinstance",
  .free "tuple",
  .free "zip",
  .free "str",
  .free "int",
  .free "bool",
  .free "list",
  .glo "HallError",
  .glo "Unfit"] : List He.Fa) ++ ([.glo "TooLarge",
  .exc "TooLarge"] : List He.Fa))
structure Tx (K : PySem.W.Frag) (mg : Str → Option Value) : Prop where
  range : mg "range" = none
  len : mg "len" = none
  isinstance : mg "isinstance" = none
  tuple : mg "tuple" = none
  zip : mg "zip" = none
  str : mg "str" = none
  int : mg "int" = none
  bool : mg "bool" = none
  list : mg "list" = none
  d_gone_through : ∃ (f : Addr) (fd : FuncData), FunD K "gone_through" "gone_through" (defArgs (top 5)) (defBody (top 5)) (defScope (top 5)) [] [] f fd ∧ mg "gone_through" = some (.ref f)
  d_atoms : ∃ (f : Addr) (fd : FuncData), FunD K "atoms" "atoms" (defArgs (top 6)) (defBody (top 6)) (defScope (top 6)) [] [] f fd ∧ mg "atoms" = some (.ref f)
  d_so_under : ∃ (f : Addr) (fd : FuncData), FunD K "so_under" "so_under" (defArgs (top 7)) (defBody (top 7)) (defScope (top 7)) [] [] f fd ∧ mg "so_under" = some (.ref f)
  d_rows_of : ∃ (f : Addr) (fd : FuncData), FunD K "rows_of" "rows_of" (defArgs (top 8)) (defBody (top 8)) (defScope (top 8)) [] [] f fd ∧ mg "rows_of" = some (.ref f)
  d_refuter : ∃ (f : Addr) (fd : FuncData), FunD K "refuter" "refuter" (defArgs (top 9)) (defBody (top 9)) (defScope (top 9)) [] [] f fd ∧ mg "refuter" = some (.ref f)
  d_cell_at_l : ∃ (f : Addr) (fd : FuncData), FunD K "_law_cell_at" "_law_cell_at" (defArgs (top 11)) (defBody (top 11)) (defScope (top 11)) [] [] f fd ∧ mg "_law_cell_at" = some (.ref f)
  d_next_l : ∃ (f : Addr) (fd : FuncData), FunD K "_law_next" "_law_next" (defArgs (top 12)) (defBody (top 12)) (defScope (top 12)) [] [] f fd ∧ mg "_law_next" = some (.ref f)
  d_part_l : ∃ (f : Addr) (fd : FuncData), FunD K "_law_part" "_law_part" (defArgs (top 13)) (defBody (top 13)) (defScope (top 13)) [] [] f fd ∧ mg "_law_part" = some (.ref f)
  d_name_by_l : ∃ (f : Addr) (fd : FuncData), FunD K "_law_name_by" "_law_name_by" (defArgs (top 14)) (defBody (top 14)) (defScope (top 14)) [] [] f fd ∧ mg "_law_name_by" = some (.ref f)
  d_names_by_l : ∃ (f : Addr) (fd : FuncData), FunD K "_law_names_by" "_law_names_by" (defArgs (top 15)) (defBody (top 15)) (defScope (top 15)) [] [] f fd ∧ mg "_law_names_by" = some (.ref f)
  d_like_l : ∃ (f : Addr) (fd : FuncData), FunD K "_law_like" "_law_like" (defArgs (top 16)) (defBody (top 16)) (defScope (top 16)) [] [] f fd ∧ mg "_law_like" = some (.ref f)
  d_rows_like_l : ∃ (f : Addr) (fd : FuncData), FunD K "_law_rows_like" "_law_rows_like" (defArgs (top 17)) (defBody (top 17)) (defScope (top 17)) [] [] f fd ∧ mg "_law_rows_like" = some (.ref f)
  d_atom_l : ∃ (f : Addr) (fd : FuncData), FunD K "_law_atom" "_law_atom" (defArgs (top 18)) (defBody (top 18)) (defScope (top 18)) [] [] f fd ∧ mg "_law_atom" = some (.ref f)
  d_plain_l : ∃ (f : Addr) (fd : FuncData), FunD K "_law_plain" "_law_plain" (defArgs (top 19)) (defBody (top 19)) (defScope (top 19)) [] [] f fd ∧ mg "_law_plain" = some (.ref f)
  d_met_l : ∃ (f : Addr) (fd : FuncData), FunD K "_law_met" "_law_met" (defArgs (top 20)) (defBody (top 20)) (defScope (top 20)) [] [] f fd ∧ mg "_law_met" = some (.ref f)
  d_so_l : ∃ (f : Addr) (fd : FuncData), FunD K "_law_so" "_law_so" (defArgs (top 21)) (defBody (top 21)) (defScope (top 21)) [] [] f fd ∧ mg "_law_so" = some (.ref f)
  d_first_l : ∃ (f : Addr) (fd : FuncData), FunD K "_law_first" "_law_first" (defArgs (top 22)) (defBody (top 22)) (defScope (top 22)) [] [] f fd ∧ mg "_law_first" = some (.ref f)
  d_large_l : ∃ (f : Addr) (fd : FuncData), FunD K "_law_large" "_law_large" (defArgs (top 23)) (defBody (top 23)) (defScope (top 23)) [] [] f fd ∧ mg "_law_large" = some (.ref f)
  d_law_k08 : ∃ (f : Addr) (fd : FuncData), FunD K "law" "law" (defArgs (top 24)) (defBody (top 24)) (defScope (top 24)) [] [] f fd ∧ mg "law" = some (.ref f)
  g_HallError : mg "HallError" = some (.ref (He.ga K "HallError"))
  g_Unfit : mg "Unfit" = some (.ref (He.ga K "Unfit"))
  g_TooLarge : mg "TooLarge" = some (.ref (He.ga K "TooLarge"))
  e_TooLarge : ErrC K mg "TooLarge"
  err : ErrK K ["Unfit", "TooLarge"] ["HallError", "Unfit", "TooLarge"]
theorem Tx_of {K : PySem.W.Frag} {h : Heap} {mg : Str → Option Value} (X : K.In h) (G : h.Ns mainGlobals mg) (c : He.SaysD fa fn K) (F : errB ["Unfit", "TooLarge"] ["HallError", "Unfit", "TooLarge"] K = true) : Tx K mg :=
  ⟨He.free_ok X G (c.fact 19 (f := .free "range") rfl),
   He.free_ok X G (c.fact 20 (f := .free "len") rfl),
   He.free_ok X G (c.fact 21 (f := .free "isinstance") rfl),
   He.free_ok X G (c.fact 22 (f := .free "tuple") rfl),
   He.free_ok X G (c.fact 23 (f := .free "zip") rfl),
   He.free_ok X G (c.fact 24 (f := .free "str") rfl),
   He.free_ok X G (c.fact 25 (f := .free "int") rfl),
   He.free_ok X G (c.fact 26 (f := .free "bool") rfl),
   He.free_ok X G (c.fact 27 (f := .free "list") rfl),
   (let ⟨fd, F⟩ := c.def_ 0 rfl; ⟨_, fd, F, He.glo_ok X G (c.fact 0 (f := .glo "gone_through") rfl)⟩),
   (let ⟨fd, F⟩ := c.def_ 1 rfl; ⟨_, fd, F, He.glo_ok X G (c.fact 1 (f := .glo "atoms") rfl)⟩),
   (let ⟨fd, F⟩ := c.def_ 2 rfl; ⟨_, fd, F, He.glo_ok X G (c.fact 2 (f := .glo "so_under") rfl)⟩),
   (let ⟨fd, F⟩ := c.def_ 3 rfl; ⟨_, fd, F, He.glo_ok X G (c.fact 3 (f := .glo "rows_of") rfl)⟩),
   (let ⟨fd, F⟩ := c.def_ 4 rfl; ⟨_, fd, F, He.glo_ok X G (c.fact 4 (f := .glo "refuter") rfl)⟩),
   (let ⟨fd, F⟩ := c.def_ 5 rfl; ⟨_, fd, F, He.glo_ok X G (c.fact 5 (f := .glo "_law_cell_at") rfl)⟩),
   (let ⟨fd, F⟩ := c.def_ 6 rfl; ⟨_, fd, F, He.glo_ok X G (c.fact 6 (f := .glo "_law_next") rfl)⟩),
   (let ⟨fd, F⟩ := c.def_ 7 rfl; ⟨_, fd, F, He.glo_ok X G (c.fact 7 (f := .glo "_law_part") rfl)⟩),
   (let ⟨fd, F⟩ := c.def_ 8 rfl; ⟨_, fd, F, He.glo_ok X G (c.fact 8 (f := .glo "_law_name_by") rfl)⟩),
   (let ⟨fd, F⟩ := c.def_ 9 rfl; ⟨_, fd, F, He.glo_ok X G (c.fact 9 (f := .glo "_law_names_by") rfl)⟩),
   (let ⟨fd, F⟩ := c.def_ 10 rfl; ⟨_, fd, F, He.glo_ok X G (c.fact 10 (f := .glo "_law_like") rfl)⟩),
   (let ⟨fd, F⟩ := c.def_ 11 rfl; ⟨_, fd, F, He.glo_ok X G (c.fact 11 (f := .glo "_law_rows_like") rfl)⟩),
   (let ⟨fd, F⟩ := c.def_ 12 rfl; ⟨_, fd, F, He.glo_ok X G (c.fact 12 (f := .glo "_law_atom") rfl)⟩),
   (let ⟨fd, F⟩ := c.def_ 13 rfl; ⟨_, fd, F, He.glo_ok X G (c.fact 13 (f := .glo "_law_plain") rfl)⟩),
   (let ⟨fd, F⟩ := c.def_ 14 rfl; ⟨_, fd, F, He.glo_ok X G (c.fact 14 (f := .glo "_law_met") rfl)⟩),
   (let ⟨fd, F⟩ := c.def_ 15 rfl; ⟨_, fd, F, He.glo_ok X G (c.fact 15 (f := .glo "_law_so") rfl)⟩),
   (let ⟨fd, F⟩ := c.def_ 16 rfl; ⟨_, fd, F, He.glo_ok X G (c.fact 16 (f := .glo "_law_first") rfl)⟩),
   (let ⟨fd, F⟩ := c.def_ 17 rfl; ⟨_, fd, F, He.glo_ok X G (c.fact 17 (f := .glo "_law_large") rfl)⟩),
   (let ⟨fd, F⟩ := c.def_ 18 rfl; ⟨_, fd, F, He.glo_ok X G (c.fact 18 (f := .glo "law") rfl)⟩),
   He.glo_ok X G (c.fact 28 (f := .glo "HallError") rfl),
   He.glo_ok X G (c.fact 29 (f := .glo "Unfit") rfl),
   He.glo_ok X G (c.fact 30 (f := .glo "TooLarge") rfl),
   (let ⟨q, k, b, t⟩ := He.exc_ok (c.fact 31 (f := .exc "TooLarge") rfl); ⟨He.glo_ok X G (c.fact 30 (f := .glo "TooLarge") rfl), q, k, b, t⟩),
   ⟨F⟩⟩
section
variable {P : Program} {w : World} {K : PySem.W.Frag} {mg : Str → Option Value} {base : Heap}
theorem sc_gone_through : FnScope N_gone_through ["form", "met"] (defScope (top 5)) := ⟨rfl, rfl, rfl, by decide +kernel, rfl, by decide +kernel, by decide +kernel⟩
theorem w_gone_through (T : Tx K mg) : ∀ n : Nat, FnT P w K mg base (0 + n) "gone_through" .per (gone_through_m n)
  | 0 => by
    obtain ⟨f, fd, F, hm⟩ := T.d_gone_through
    exact FnT.none hm F.kp (F.bindsN (ps := ["form", "met"]) fun _ _ _ _ _ _ us hl => match us, hl with | [_, _], _ => rfl)
  | n + 1 => by
    obtain ⟨f, fd, F, hm⟩ := T.d_gone_through
    have g_gone_through := w_gone_through T n
    exact ⟨f, fd, _, fn_ok (k := 0 + n) (N := N_gone_through) (ps := ["form", "met"]) (m := gone_through_b (gone_through_m n)) F sc_gone_through (by decide) (fun cdv A outer s H E B hr hB =>
  (sm_one (sm_if (pq_cmp (op_eqA (hu200 hr)) r2_eq (pm_ix (pm_v 0) pm_int) pm_str (nomark _))
  (sm_cons (sm_doX (px_call (takes_of rfl rfl rfl rfl) g_gone_through (hr.mono (by omega)) (by rfl) (xa_cons (px (pm_ix (pm_v 0) pm_int)) (xa_slot (a := .o 1) (i := 1) (.inl rfl) (by rfl) xa_nil))))
  (sm_one (sm_doX (px_call (takes_of rfl rfl rfl rfl) g_gone_through (hr.mono (by omega)) (by rfl) (xa_cons (px (pm_ix (pm_v 0) pm_int)) (xa_slot (a := .o 1) (i := 1) (.inl rfl) (by rfl) xa_nil))))))
  (sm_one (sm_if (PW.pt (pq_and (pq_cmp (op_neA (hu200 hr)) r2_ne (pm_ix (pm_v 0) pm_int) pm_str (nomark _)) (pq_and1 (pq_cmp (op_notInA (hu200 hr)) r2_in (pm_v 0) (pm_va 1) (by rfl)))))
  (sm_one (sm_app (i := 1) (pe_bm PySem.F.plainAttrs_list PySem.F.slot_list_append PySem.F.type_list_append mt_append (pv 1) (pa_cons (pm_v 0) pa_nil))))
  sm_nil))))), hm, F.kp, (F.bindsN (ps := ["form", "met"]) fun _ _ _ _ _ _ us hl => match us, hl with | [_, _], _ => rfl)⟩
theorem sc_atoms : FnScope N_atoms ["form"] (defScope (top 6)) := ⟨rfl, rfl, rfl, by decide +kernel, rfl, by decide +kernel, by decide +kernel⟩
theorem w_atoms (T : Tx K mg) : FnT P w K mg base 71 "atoms" .per atoms_m := by
  obtain ⟨f, fd, F, hm⟩ := T.d_atoms
  have g_gone_through : FnT P w K mg base 70 "gone_through" .per (gone_through_m 70) := w_gone_through T 70
  exact ⟨f, fd, _, fn_ok (k := 70) (N := N_atoms) (ps := ["form"]) (m := atoms_b (gone_through_m 70)) F sc_atoms (by decide) (fun cdv A outer s H E B hr hB =>
  (sm_cons (sm_new (i := 1) sc_atoms.nd (by rfl) (by first | exact Or.inl rfl | exact Or.inr rfl) (pm_lst pam_nil))
  (sm_cons (sm_doX (px_call (takes_of rfl rfl rfl rfl) g_gone_through (hr.mono (by omega)) (by rfl) (xa_cons (px (pm_v 0)) (xa_slot (a := .o 1) (i := 1) (.inl rfl) (by rfl) xa_nil))))
  (sm_one (sm_fz (i := 1) (sm_ret (pm_v 1)) (hB 1 (by decide))))))), hm, F.kp, (F.bindsN (ps := ["form"]) fun _ _ _ _ _ _ us hl => match us, hl with | [_], _ => rfl)⟩
theorem sc_so_under : FnScope N_so_under ["form", "met", "row"] (defScope (top 7)) := ⟨rfl, rfl, rfl, by decide +kernel, rfl, by decide +kernel, by decide +kernel⟩
theorem w_so_under (T : Tx K mg) : ∀ n : Nat, FnT P w K mg base (0 + n) "so_under" .per (so_under_m n)
  | 0 => by
    obtain ⟨f, fd, F, hm⟩ := T.d_so_under
    exact FnT.none hm F.kp (F.bindsN (ps := ["form", "met", "row"]) fun _ _ _ _ _ _ us hl => match us, hl with | [_, _, _], _ => rfl)
  | n + 1 => by
    obtain ⟨f, fd, F, hm⟩ := T.d_so_under
    have g_so_under := w_so_under T n
    exact ⟨f, fd, _, fn_ok (k := 0 + n) (N := N_so_under) (ps := ["form", "met", "row"]) (m := so_under_b (so_under_m n)) F sc_so_under (by decide) (fun cdv A outer s H E B hr hB =>
  (sm_cons (sm_if (pq_cmp (op_eqA (hu200 hr)) r2_eq (pm_ix (pm_v 0) pm_int) pm_str (nomark _))
  (sm_one (sm_ret pm_bl))
  sm_nil)
  (sm_cons (sm_if (pq_cmp (op_eqA (hu200 hr)) r2_eq (pm_ix (pm_v 0) pm_int) pm_str (nomark _))
  (sm_one (sm_ret (pm_bool (pm_or (pm_not (pm_call g_so_under (hr.mono (by omega)) (by rfl) (pam_per (pm_ix (pm_v 0) pm_int) (pam_per (pm_v 1) (pam_per (pm_v 2) pam_nil))))) (pm_one (pm_call g_so_under (hr.mono (by omega)) (by rfl) (pam_per (pm_ix (pm_v 0) pm_int) (pam_per (pm_v 1) (pam_per (pm_v 2) pam_nil)))))))))
  sm_nil)
  (sm_one (sm_ret (pm_ix (pm_v 2) (pm_index (pe_bm PySem.F.plainAttrs_list PySem.F.slot_list_index PySem.F.type_list_index (mt_indexD (hu65 hr)) (pm_v 1) (pa_cons (pm_v 0) pa_nil))))))))), hm, F.kp, (F.bindsN (ps := ["form", "met", "row"]) fun _ _ _ _ _ _ us hl => match us, hl with | [_, _, _], _ => rfl)⟩
theorem sc_rows_of : FnScope N_rows_of ["many"] (defScope (top 8)) := ⟨rfl, rfl, rfl, by decide +kernel, rfl, by decide +kernel, by decide +kernel⟩
theorem w_rows_of (T : Tx K mg) : FnT P w K mg base 1 "rows_of" .per rows_of_m := by
  obtain ⟨f, fd, F, hm⟩ := T.d_rows_of
  exact ⟨f, fd, _, fn_ok (k := 0) (N := N_rows_of) (ps := ["many"]) (m := rows_of_b ) F sc_rows_of (by decide) (fun cdv A outer s H E B hr hB =>
  (sm_cons (sm_set (i := 1) sc_rows_of.nd (by rfl) (by first | exact Or.inl rfl | exact Or.inr rfl) (pm_per (pm_nf (pm_lst (pam_per (pm_per (pm_nf (pm_lst pam_nil))) pam_nil)))))
  (sm_cons (sm_forR1 (i := 2) (passes_of (by rfl)) (by rfl) (by rfl) T.range (pm_v 0) (pg_name (i := 2) sc_rows_of.nd (by rfl) (by first | exact Or.inl rfl | exact Or.inr rfl))
  (sm_cons (sm_fz (i := 3) (sm_new (i := 3) sc_rows_of.nd (by rfl) (by first | exact Or.inl rfl | exact Or.inr rfl) (pm_lst pam_nil)) (hB 3 (by decide)))
  (sm_cons (sm_for (i := 4) (passes_of (by rfl)) (by rfl) (pl_of (pm_fre (pm_v 1))) (pg_name (i := 4) sc_rows_of.nd (by rfl) (by first | exact Or.inl rfl | exact Or.inr rfl))
  (sm_cons (sm_app (i := 3) (pe_bm PySem.F.plainAttrs_list PySem.F.slot_list_append PySem.F.type_list_append mt_append (pv 3) (pa_cons (pm_per (pm_op op_addA r2_add (pm_v 4) (pm_lst (pam_per pm_bl pam_nil)))) pa_nil)))
  (sm_one (sm_app (i := 3) (pe_bm PySem.F.plainAttrs_list PySem.F.slot_list_append PySem.F.type_list_append mt_append (pv 3) (pa_cons (pm_per (pm_op op_addA r2_add (pm_v 4) (pm_lst (pam_per pm_bl pam_nil)))) pa_nil))))))
  (sm_one (sm_fz (i := 3) (sm_set (i := 1) sc_rows_of.nd (by rfl) (by first | exact Or.inl rfl | exact Or.inr rfl) (pm_v 3)) (hB 3 (by decide)))))))
  (sm_one (sm_ret (pm_v 1)))))), hm, F.kp, (F.bindsN (ps := ["many"]) fun _ _ _ _ _ _ us hl => match us, hl with | [_], _ => rfl)⟩
theorem sc_refuter : FnScope N_refuter ["form"] (defScope (top 9)) := ⟨rfl, rfl, rfl, by decide +kernel, rfl, by decide +kernel, by decide +kernel⟩
theorem w_refuter (T : Tx K mg) : FnT P w K mg base 72 "refuter" .per refuter_m := by
  obtain ⟨f, fd, F, hm⟩ := T.d_refuter
  have g_atoms : FnT P w K mg base 71 "atoms" .per atoms_m := w_atoms T
  have g_rows_of : FnT P w K mg base 1 "rows_of" .per rows_of_m := w_rows_of T
  have g_so_under : FnT P w K mg base 70 "so_under" .per (so_under_m 70) := w_so_under T 70
  exact ⟨f, fd, _, fn_ok (k := 71) (N := N_refuter) (ps := ["form"]) (m := refuter_b atoms_m rows_of_m (so_under_m 70)) F sc_refuter (by decide) (fun cdv A outer s H E B hr hB =>
  (sm_cons (sm_set (i := 1) sc_refuter.nd (by rfl) (by first | exact Or.inl rfl | exact Or.inr rfl) (pm_call g_atoms (hr.mono (by omega)) (by rfl) (pam_per (pm_v 0) pam_nil)))
  (sm_cons (sm_if (pq_cmp op_gt r2_gt (pm_len T.len (by rfl) (pm_v 1)) pm_int (nomark _))
  (sm_one (sm_raise (c := "TooLarge") rfl (takes_of rfl rfl rfl rfl) T.e_TooLarge (by rfl)))
  sm_nil)
  (sm_cons (sm_for (i := 2) (passes_of (by rfl)) (by rfl) (pl_of (pm_fre (pm_call g_rows_of (hr.mono (by omega)) (by rfl) (pam_per (pm_len T.len (by rfl) (pm_v 1)) pam_nil)))) (pg_name (i := 2) sc_refuter.nd (by rfl) (by first | exact Or.inl rfl | exact Or.inr rfl))
  (sm_one (sm_if (pq_not (pq_val (pm_call g_so_under (hr.mono (by omega)) (by rfl) (pam_per (pm_v 0) (pam_per (pm_v 1) (pam_per (pm_v 2) pam_nil))))))
  (sm_one (sm_ret (pm_v 2)))
  sm_nil)))
  (sm_one (sm_ret pm_non)))))), hm, F.kp, (F.bindsN (ps := ["form"]) fun _ _ _ _ _ _ us hl => match us, hl with | [_], _ => rfl)⟩
theorem sc_cell_at_l : FnScope N_cell_at_l ["script", "k"] (defScope (top 11)) := ⟨rfl, rfl, rfl, by decide +kernel, rfl, by decide +kernel, by decide +kernel⟩
theorem w_cell_at_l (T : Tx K mg) : FnT P w K mg base 1 "_law_cell_at" .per cell_at_l_m := by
  obtain ⟨f, fd, F, hm⟩ := T.d_cell_at_l
  exact ⟨f, fd, _, fn_ok (k := 0) (N := N_cell_at_l) (ps := ["script", "k"]) (m := cell_at_l_b ) F sc_cell_at_l (by decide) (fun cdv A outer s H E B hr hB =>
  (sm_cons (sm_if (pq_cmp op_lt r2_lt (pm_v 1) (pm_len T.len (by rfl) (pm_va 0)) (nomark _))
  (sm_one (sm_ret (pm_ix (pm_va 0) (pm_v 1))))
  sm_nil)
  (sm_one (sm_ret pm_int)))), hm, F.kp, (F.bindsN (ps := ["script", "k"]) fun _ _ _ _ _ _ us hl => match us, hl with | [_, _], _ => rfl)⟩
theorem sc_next_l : FnScope N_next_l ["seed"] (defScope (top 12)) := ⟨rfl, rfl, rfl, by decide +kernel, rfl, by decide +kernel, by decide +kernel⟩
theorem w_next_l (T : Tx K mg) : FnT P w K mg base 1 "_law_next" .per next_l_m := by
  obtain ⟨f, fd, F, hm⟩ := T.d_next_l
  exact ⟨f, fd, _, fn_ok (k := 0) (N := N_next_l) (ps := ["seed"]) (m := next_l_b ) F sc_next_l (by decide) (fun cdv A outer s H E B hr hB =>
  (sm_one (sm_ret (pm_op op_mod r2_mod (pm_op op_addA r2_add (pm_op op_mul r2_mul (pm_v 0) pm_int) pm_int) pm_int)))), hm, F.kp, (F.bindsN (ps := ["seed"]) fun _ _ _ _ _ _ us hl => match us, hl with | [_], _ => rfl)⟩
theorem sc_part_l : FnScope N_part_l ["seed", "k"] (defScope (top 13)) := ⟨rfl, rfl, rfl, by decide +kernel, rfl, by decide +kernel, by decide +kernel⟩
theorem w_part_l (T : Tx K mg) : FnT P w K mg base 1 "_law_part" .per part_l_m := by
  obtain ⟨f, fd, F, hm⟩ := T.d_part_l
  exact ⟨f, fd, _, fn_ok (k := 0) (N := N_part_l) (ps := ["seed", "k"]) (m := part_l_b ) F sc_part_l (by decide) (fun cdv A outer s H E B hr hB =>
  (sm_one (sm_ret (pm_op op_fdiv r2_div (pm_op op_mod r2_mod (pm_op op_addA r2_add (pm_op op_addA r2_add (pm_op op_mul r2_mul (pm_v 0) (pm_ix (pm_lst (pam_per pm_int (pam_per pm_int (pam_per pm_int (pam_per pm_int (pam_per pm_int pam_nil)))))) (pm_op op_mod r2_mod (pm_v 1) pm_int))) pm_int) (pm_v 1)) pm_int) pm_int)))), hm, F.kp, (F.bindsN (ps := ["seed", "k"]) fun _ _ _ _ _ _ us hl => match us, hl with | [_, _], _ => rfl)⟩
theorem sc_name_by_l : FnScope N_name_by_l ["cell"] (defScope (top 14)) := ⟨rfl, rfl, rfl, by decide +kernel, rfl, by decide +kernel, by decide +kernel⟩
theorem w_name_by_l (T : Tx K mg) : FnT P w K mg base 2 "_law_name_by" .per name_by_l_m := by
  obtain ⟨f, fd, F, hm⟩ := T.d_name_by_l
  have g_next_l : FnT P w K mg base 1 "_law_next" .per next_l_m := w_next_l T
  exact ⟨f, fd, _, fn_ok (k := 1) (N := N_name_by_l) (ps := ["cell"]) (m := name_by_l_b next_l_m) F sc_name_by_l (by decide) (fun cdv A outer s H E B hr hB =>
  (sm_cons (sm_set (i := 1) sc_name_by_l.nd (by rfl) (by first | exact Or.inl rfl | exact Or.inr rfl) (pm_call g_next_l (hr.mono (by omega)) (by rfl) (pam_per (pm_v 0) pam_nil)))
  (sm_cons (sm_set (i := 2) sc_name_by_l.nd (by rfl) (by first | exact Or.inl rfl | exact Or.inr rfl) pm_str)
  (sm_cons (sm_forR1 (i := 3) (passes_of (by rfl)) (by rfl) (by rfl) T.range (pm_op op_addA r2_add pm_int (pm_op op_mod r2_mod (pm_v 0) pm_int)) (pg_name (i := 3) sc_name_by_l.nd (by rfl) (by first | exact Or.inl rfl | exact Or.inr rfl))
  (sm_cons (sm_set (i := 2) sc_name_by_l.nd (by rfl) (by first | exact Or.inl rfl | exact Or.inr rfl) (pm_per (pm_op op_addA r2_add (pm_v 2) (pm_ix pm_str (pm_op op_mod r2_mod (pm_op op_fdiv r2_div (pm_v 1) pm_int) pm_int)))))
  (sm_one (sm_set (i := 1) sc_name_by_l.nd (by rfl) (by first | exact Or.inl rfl | exact Or.inr rfl) (pm_call g_next_l (hr.mono (by omega)) (by rfl) (pam_per (pm_v 1) pam_nil))))))
  (sm_one (sm_ret (pm_v 2))))))), hm, F.kp, (F.bindsN (ps := ["cell"]) fun _ _ _ _ _ _ us hl => match us, hl with | [_], _ => rfl)⟩
theorem sc_names_by_l : FnScope N_names_by_l ["cell"] (defScope (top 15)) := ⟨rfl, rfl, rfl, by decide +kernel, rfl, by decide +kernel, by decide +kernel⟩
theorem w_names_by_l (T : Tx K mg) : FnT P w K mg base 3 "_law_names_by" .per names_by_l_m := by
  obtain ⟨f, fd, F, hm⟩ := T.d_names_by_l
  have g_name_by_l : FnT P w K mg base 2 "_law_name_by" .per name_by_l_m := w_name_by_l T
  exact ⟨f, fd, _, fn_ok (k := 2) (N := N_names_by_l) (ps := ["cell"]) (m := names_by_l_b name_by_l_m) F sc_names_by_l (by decide) (fun cdv A outer s H E B hr hB =>
  (sm_one (sm_ret (pm_per (pm_nf (pm_lst (pam_per (pm_call g_name_by_l (hr.mono (by omega)) (by rfl) (pam_per (pm_v 0) pam_nil)) (pam_per (pm_call g_name_by_l (hr.mono (by omega)) (by rfl) (pam_per (pm_per (pm_op op_addA r2_add (pm_op op_fdiv r2_div (pm_v 0) pm_int) pm_int)) pam_nil)) (pam_per (pm_per (pm_sl (pm_call g_name_by_l (hr.mono (by omega)) (by rfl) (pam_per (pm_v 0) pam_nil)) pom_none (pom_some pm_int))) pam_nil))))))))), hm, F.kp, (F.bindsN (ps := ["cell"]) fun _ _ _ _ _ _ us hl => match us, hl with | [_], _ => rfl)⟩
theorem sc_like_l : FnScope N_like_l ["found", "due"] (defScope (top 16)) := ⟨rfl, rfl, rfl, by decide +kernel, rfl, by decide +kernel, by decide +kernel⟩
theorem w_like_l (T : Tx K mg) : ∀ n : Nat, FnT P w K mg base (0 + n) "_law_like" .per (like_l_m n)
  | 0 => by
    obtain ⟨f, fd, F, hm⟩ := T.d_like_l
    exact FnT.none hm F.kp (F.bindsN (ps := ["found", "due"]) fun _ _ _ _ _ _ us hl => match us, hl with | [_, _], _ => rfl)
  | n + 1 => by
    obtain ⟨f, fd, F, hm⟩ := T.d_like_l
    have g_like_l := w_like_l T n
    exact ⟨f, fd, _, fn_ok (k := 0 + n) (N := N_like_l) (ps := ["found", "due"]) (m := like_l_b (like_l_m n)) F sc_like_l (by decide) (fun cdv A outer s H E B hr hB =>
  (sm_cons (sm_if (pq_val (pm_isi T.isinstance (by rfl) boot_tuple T.tuple (by rfl) (pm_v 1)))
  (sm_cons (sm_if (PW.pt (pq_or (pq_not (pq_val (pm_isi T.isinstance (by rfl) boot_tuple T.tuple (by rfl) (pm_v 0)))) (pq_or1 (pq_cmp (op_neA (hu200 hr)) r2_ne (pm_len T.len (by rfl) (pm_v 0)) (pm_len T.len (by rfl) (pm_v 1)) (nomark _)))))
  (sm_one (sm_ret pm_bl))
  sm_nil)
  (sm_cons (sm_forZ (i := 2) (j := 3) (passes_of (by rfl)) (by rfl) (by rfl) T.zip (pz_of (pm_fre (pm_v 0))) (pz_of (pm_fre (pm_v 1))) (pg_tup (by rfl) (pgs_cons (pg_name (i := 2) sc_like_l.nd (by rfl) (by first | exact Or.inl rfl | exact Or.inr rfl)) (pgs_cons (pg_name (i := 3) sc_like_l.nd (by rfl) (by first | exact Or.inl rfl | exact Or.inr rfl)) pgs_nil)))
  (sm_one (sm_if (pq_not (pq_val (pm_call g_like_l (hr.mono (by omega)) (by rfl) (pam_per (pm_v 2) (pam_per (pm_v 3) pam_nil)))))
  (sm_one (sm_ret pm_bl))
  sm_nil)) (by decide))
  (sm_one (sm_ret pm_bl))))
  sm_nil)
  (sm_cons (sm_if (pq_val (pm_isi T.isinstance (by rfl) boot_str T.str (by rfl) (pm_v 1)))
  (sm_one (sm_ret (pm_bool (pm_and (pm_isi T.isinstance (by rfl) boot_str T.str (by rfl) (pm_v 0)) (pm_one (pm_cmp (op_eqA (hu200 hr)) r2_eq (pm_v 0) (pm_v 1) (nomark _)))))))
  sm_nil)
  (sm_one (sm_ret (pm_bool (pm_and (pm_isi T.isinstance (by rfl) boot_int T.int (by rfl) (pm_v 0)) (pm_and (pm_not (pm_isi T.isinstance (by rfl) boot_bool T.bool (by rfl) (pm_v 0))) (pm_one (pm_cmp (op_eqA (hu200 hr)) r2_eq (pm_v 0) (pm_v 1) (nomark _))))))))))), hm, F.kp, (F.bindsN (ps := ["found", "due"]) fun _ _ _ _ _ _ us hl => match us, hl with | [_, _], _ => rfl)⟩
theorem sc_rows_like_l : FnScope N_rows_like_l ["found", "due"] (defScope (top 17)) := ⟨rfl, rfl, rfl, by decide +kernel, rfl, by decide +kernel, by decide +kernel⟩
theorem w_rows_like_l (T : Tx K mg) : FnT P w K mg base 71 "_law_rows_like" .per rows_like_l_m := by
  obtain ⟨f, fd, F, hm⟩ := T.d_rows_like_l
  have g_like_l : FnT P w K mg base 70 "_law_like" .per (like_l_m 70) := w_like_l T 70
  exact ⟨f, fd, _, fn_ok (k := 70) (N := N_rows_like_l) (ps := ["found", "due"]) (m := rows_like_l_b (like_l_m 70)) F sc_rows_like_l (by decide) (fun cdv A outer s H E B hr hB =>
  (sm_cons (sm_if (PW.pt (pq_or (pq_not (pq_val (pm_isi T.isinstance (by rfl) boot_list T.list (by rfl) (pm_v 0)))) (pq_or1 (pq_cmp (op_neA (hu200 hr)) r2_ne (pm_len T.len (by rfl) (pm_v 0)) (pm_len T.len (by rfl) (pm_v 1)) (nomark _)))))
  (sm_one (sm_ret pm_bl))
  sm_nil)
  (sm_cons (sm_forZ (i := 2) (j := 3) (passes_of (by rfl)) (by rfl) (by rfl) T.zip (pz_of (pm_fre (pm_v 0))) (pz_of (pm_fre (pm_v 1))) (pg_tup (by rfl) (pgs_cons (pg_name (i := 2) sc_rows_like_l.nd (by rfl) (by first | exact Or.inl rfl | exact Or.inr rfl)) (pgs_cons (pg_name (i := 3) sc_rows_like_l.nd (by rfl) (by first | exact Or.inl rfl | exact Or.inr rfl)) pgs_nil)))
  (sm_one (sm_if (pq_not (pq_val (pm_call g_like_l (hr.mono (by omega)) (by rfl) (pam_per (pm_v 2) (pam_per (pm_v 3) pam_nil)))))
  (sm_one (sm_ret pm_bl))
  sm_nil)) (by decide))
  (sm_one (sm_ret pm_bl))))), hm, F.kp, (F.bindsN (ps := ["found", "due"]) fun _ _ _ _ _ _ us hl => match us, hl with | [_, _], _ => rfl)⟩
theorem sc_atom_l : FnScope N_atom_l ["number", "names"] (defScope (top 18)) := ⟨rfl, rfl, rfl, by decide +kernel, rfl, by decide +kernel, by decide +kernel⟩
theorem w_atom_l (T : Tx K mg) : FnT P w K mg base 1 "_law_atom" .per atom_l_m := by
  obtain ⟨f, fd, F, hm⟩ := T.d_atom_l
  exact ⟨f, fd, _, fn_ok (k := 0) (N := N_atom_l) (ps := ["number", "names"]) (m := atom_l_b ) F sc_atom_l (by decide) (fun cdv A outer s H E B hr hB =>
  (sm_cons (sm_if (pq_cmp (op_eqA (hu200 hr)) r2_eq (pm_op op_mod r2_mod (pm_v 0) pm_int) pm_int (nomark _))
  (sm_one (sm_ret (pm_tup (pam_per pm_str (pam_per (pm_tup (pam_per pm_str (pam_per (pm_v 0) pam_nil))) (pam_per (pm_tup (pam_per pm_str (pam_per (pm_ix (pm_v 1) pm_int) (pam_per (pm_tup pam_nil) pam_nil)))) pam_nil))))))
  sm_nil)
  (sm_cons (sm_if (pq_cmp (op_eqA (hu200 hr)) r2_eq (pm_op op_mod r2_mod (pm_v 0) pm_int) pm_int (nomark _))
  (sm_one (sm_ret (pm_tup (pam_per pm_str (pam_per (pm_tup (pam_per pm_str (pam_per (pm_ix (pm_v 1) pm_int) (pam_per (pm_tup (pam_per (pm_tup (pam_per pm_str (pam_per (pm_v 0) pam_nil))) (pam_per (pm_tup (pam_per pm_str (pam_per pm_int pam_nil))) pam_nil))) pam_nil)))) pam_nil)))))
  sm_nil)
  (sm_one (sm_ret (pm_tup (pam_per pm_str (pam_per (pm_ix (pm_v 1) pm_int) (pam_per (pm_tup (pam_per (pm_tup (pam_per pm_str (pam_per (pm_v 0) pam_nil))) pam_nil)) pam_nil))))))))), hm, F.kp, (F.bindsN (ps := ["number", "names"]) fun _ _ _ _ _ _ us hl => match us, hl with | [_, _], _ => rfl)⟩
theorem sc_plain_l : FnScope N_plain_l ["seed", "deep", "names", "many"] (defScope (top 19)) := ⟨rfl, rfl, rfl, by decide +kernel, rfl, by decide +kernel, by decide +kernel⟩
theorem w_plain_l (T : Tx K mg) : ∀ n : Nat, FnT P w K mg base (1 + n) "_law_plain" .per (plain_l_m n)
  | 0 => by
    obtain ⟨f, fd, F, hm⟩ := T.d_plain_l
    exact FnT.none hm F.kp (F.bindsN (ps := ["seed", "deep", "names", "many"]) fun _ _ _ _ _ _ us hl => match us, hl with | [_, _, _, _], _ => rfl)
  | n + 1 => by
    obtain ⟨f, fd, F, hm⟩ := T.d_plain_l
    have g_plain_l := w_plain_l T n
    have g_atom_l : FnT P w K mg base 1 "_law_atom" .per atom_l_m := w_atom_l T
    have g_part_l : FnT P w K mg base 1 "_law_part" .per part_l_m := w_part_l T
    exact ⟨f, fd, _, fn_ok (k := 1 + n) (N := N_plain_l) (ps := ["seed", "deep", "names", "many"]) (m := plain_l_b atom_l_m (plain_l_m n) part_l_m) F sc_plain_l (by decide) (fun cdv A outer s H E B hr hB =>
  (sm_cons (sm_if (PW.pt (pq_or (pq_cmp (op_eqA (hu200 hr)) r2_eq (pm_v 1) pm_int (nomark _)) (pq_or1 (pq_cmp (op_eqA (hu200 hr)) r2_eq (pm_op op_mod r2_mod (pm_v 0) pm_int) pm_int (nomark _)))))
  (sm_cons (sm_if (pq_cmp (op_eqA (hu200 hr)) r2_eq (pm_op op_mod r2_mod (pm_op op_fdiv r2_div (pm_v 0) pm_int) pm_int) pm_int (nomark _))
  (sm_one (sm_ret (pm_tup (pam_per pm_str pam_nil))))
  sm_nil)
  (sm_one (sm_ret (pm_call g_atom_l (hr.mono (by omega)) (by rfl) (pam_per (pm_op op_mod r2_mod (pm_op op_fdiv r2_div (pm_v 0) pm_int) (pm_v 3)) (pam_per (pm_v 2) pam_nil))))))
  sm_nil)
  (sm_cons (sm_set (i := 4) sc_plain_l.nd (by rfl) (by first | exact Or.inl rfl | exact Or.inr rfl) (pm_call g_plain_l (hr.mono (by omega)) (by rfl) (pam_per (pm_call g_part_l (hr.mono (by omega)) (by rfl) (pam_per (pm_v 0) (pam_per pm_int pam_nil))) (pam_per (pm_op op_sub r2_sub (pm_v 1) pm_int) (pam_per (pm_v 2) (pam_per (pm_v 3) pam_nil))))))
  (sm_one (sm_ret (pm_tup (pam_per pm_str (pam_per (pm_v 4) (pam_per (pm_call g_plain_l (hr.mono (by omega)) (by rfl) (pam_per (pm_call g_part_l (hr.mono (by omega)) (by rfl) (pam_per (pm_v 0) (pam_per pm_int pam_nil))) (pam_per (pm_op op_sub r2_sub (pm_v 1) pm_int) (pam_per (pm_v 2) (pam_per (pm_v 3) pam_nil))))) pam_nil))))))))), hm, F.kp, (F.bindsN (ps := ["seed", "deep", "names", "many"]) fun _ _ _ _ _ _ us hl => match us, hl with | [_, _, _, _], _ => rfl)⟩
theorem sc_met_l : FnScope N_met_l ["form", "met"] (defScope (top 20)) := ⟨rfl, rfl, rfl, by decide +kernel, rfl, by decide +kernel, by decide +kernel⟩
theorem w_met_l (T : Tx K mg) : ∀ n : Nat, FnT P w K mg base (0 + n) "_law_met" .per (met_l_m n)
  | 0 => by
    obtain ⟨f, fd, F, hm⟩ := T.d_met_l
    exact FnT.none hm F.kp (F.bindsN (ps := ["form", "met"]) fun _ _ _ _ _ _ us hl => match us, hl with | [_, _], _ => rfl)
  | n + 1 => by
    obtain ⟨f, fd, F, hm⟩ := T.d_met_l
    have g_met_l := w_met_l T n
    exact ⟨f, fd, _, fn_ok (k := 0 + n) (N := N_met_l) (ps := ["form", "met"]) (m := met_l_b (met_l_m n)) F sc_met_l (by decide) (fun cdv A outer s H E B hr hB =>
  (sm_cons (sm_if (pq_cmp (op_eqA (hu200 hr)) r2_eq (pm_ix (pm_v 0) pm_int) pm_str (nomark _))
  (sm_one (sm_ret (pm_call g_met_l (hr.mono (by omega)) (by rfl) (pam_per (pm_ix (pm_v 0) pm_int) (pam_per (pm_call g_met_l (hr.mono (by omega)) (by rfl) (pam_per (pm_ix (pm_v 0) pm_int) (pam_per (pm_v 1) pam_nil))) pam_nil)))))
  sm_nil)
  (sm_cons (sm_if (PW.pt (pq_or (pq_cmp (op_eqA (hu200 hr)) r2_eq (pm_ix (pm_v 0) pm_int) pm_str (nomark _)) (pq_or1 (pq_cmp (op_inA (hu200 hr)) r2_in (pm_v 0) (pm_v 1) (by rfl)))))
  (sm_one (sm_ret (pm_v 1)))
  sm_nil)
  (sm_one (sm_ret (pm_per (pm_op op_addA r2_add (pm_v 1) (pm_lst (pam_per (pm_v 0) pam_nil))))))))), hm, F.kp, (F.bindsN (ps := ["form", "met"]) fun _ _ _ _ _ _ us hl => match us, hl with | [_, _], _ => rfl)⟩
theorem sc_so_l : FnScope N_so_l ["form", "met", "row"] (defScope (top 21)) := ⟨rfl, rfl, rfl, by decide +kernel, rfl, by decide +kernel, by decide +kernel⟩
theorem w_so_l (T : Tx K mg) : ∀ n : Nat, FnT P w K mg base (0 + n) "_law_so" .per (so_l_m n)
  | 0 => by
    obtain ⟨f, fd, F, hm⟩ := T.d_so_l
    exact FnT.none hm F.kp (F.bindsN (ps := ["form", "met", "row"]) fun _ _ _ _ _ _ us hl => match us, hl with | [_, _, _], _ => rfl)
  | n + 1 => by
    obtain ⟨f, fd, F, hm⟩ := T.d_so_l
    have g_so_l := w_so_l T n
    exact ⟨f, fd, _, fn_ok (k := 0 + n) (N := N_so_l) (ps := ["form", "met", "row"]) (m := so_l_b (so_l_m n)) F sc_so_l (by decide) (fun cdv A outer s H E B hr hB =>
  (sm_cons (sm_if (pq_cmp (op_eqA (hu200 hr)) r2_eq (pm_ix (pm_v 0) pm_int) pm_str (nomark _))
  (sm_one (sm_ret (pm_bool (pm_or (pm_call g_so_l (hr.mono (by omega)) (by rfl) (pam_per (pm_ix (pm_v 0) pm_int) (pam_per (pm_v 1) (pam_per (pm_v 2) pam_nil)))) (pm_one (pm_not (pm_call g_so_l (hr.mono (by omega)) (by rfl) (pam_per (pm_ix (pm_v 0) pm_int) (pam_per (pm_v 1) (pam_per (pm_v 2) pam_nil))))))))))
  sm_nil)
  (sm_one (sm_ret (pm_bool (pm_and (pm_cmp (op_neA (hu200 hr)) r2_ne (pm_ix (pm_v 0) pm_int) pm_str (nomark _)) (pm_one (pm_ix (pm_v 2) (pm_index (pe_bm PySem.F.plainAttrs_list PySem.F.slot_list_index PySem.F.type_list_index (mt_indexD (hu65 hr)) (pm_v 1) (pa_cons (pm_v 0) pa_nil))))))))))), hm, F.kp, (F.bindsN (ps := ["form", "met", "row"]) fun _ _ _ _ _ _ us hl => match us, hl with | [_, _, _], _ => rfl)⟩
theorem sc_first_l : FnScope N_first_l ["form", "met", "row"] (defScope (top 22)) := ⟨rfl, rfl, rfl, by decide +kernel, rfl, by decide +kernel, by decide +kernel⟩
theorem w_first_l (T : Tx K mg) : ∀ n : Nat, FnT P w K mg base (70 + n) "_law_first" .per (first_l_m n)
  | 0 => by
    obtain ⟨f, fd, F, hm⟩ := T.d_first_l
    exact FnT.none hm F.kp (F.bindsN (ps := ["form", "met", "row"]) fun _ _ _ _ _ _ us hl => match us, hl with | [_, _, _], _ => rfl)
  | n + 1 => by
    obtain ⟨f, fd, F, hm⟩ := T.d_first_l
    have g_first_l := w_first_l T n
    have g_so_l : FnT P w K mg base 70 "_law_so" .per (so_l_m 70) := w_so_l T 70
    exact ⟨f, fd, _, fn_ok (k := 70 + n) (N := N_first_l) (ps := ["form", "met", "row"]) (m := first_l_b (so_l_m 70) (first_l_m n)) F sc_first_l (by decide) (fun cdv A outer s H E B hr hB =>
  (sm_cons (sm_if (pq_cmp (op_eqA (hu200 hr)) r2_eq (pm_len T.len (by rfl) (pm_v 2)) (pm_len T.len (by rfl) (pm_v 1)) (nomark _))
  (sm_one (sm_ret (pm_if (pq_val (pm_call g_so_l (hr.mono (by omega)) (by rfl) (pam_per (pm_v 0) (pam_per (pm_v 1) (pam_per (pm_v 2) pam_nil))))) pm_non (pm_v 2))))
  sm_nil)
  (sm_cons (sm_set (i := 3) sc_first_l.nd (by rfl) (by first | exact Or.inl rfl | exact Or.inr rfl) (pm_call g_first_l (hr.mono (by omega)) (by rfl) (pam_per (pm_v 0) (pam_per (pm_v 1) (pam_per (pm_per (pm_op op_addA r2_add (pm_v 2) (pm_lst (pam_per pm_bl pam_nil)))) pam_nil)))))
  (sm_cons (sm_if (pq_cmp op_notN r2_notN (pm_v 3) pm_non (nomark _))
  (sm_one (sm_ret (pm_v 3)))
  sm_nil)
  (sm_one (sm_ret (pm_call g_first_l (hr.mono (by omega)) (by rfl) (pam_per (pm_v 0) (pam_per (pm_v 1) (pam_per (pm_per (pm_op op_addA r2_add (pm_v 2) (pm_lst (pam_per pm_bl pam_nil)))) pam_nil)))))))))), hm, F.kp, (F.bindsN (ps := ["form", "met", "row"]) fun _ _ _ _ _ _ us hl => match us, hl with | [_, _, _], _ => rfl)⟩
theorem sc_large_l : FnScope N_large_l ["form"] (defScope (top 23)) := ⟨rfl, rfl, rfl, by decide +kernel, rfl, by decide +kernel, by decide +kernel⟩
theorem w_large_l (T : Tx K mg) : FnT P w K mg base 73 "_law_large" .per large_l_m := by
  obtain ⟨f, fd, F, hm⟩ := T.d_large_l
  have g_refuter : FnT P w K mg base 72 "refuter" .per refuter_m := w_refuter T
  exact ⟨f, fd, _, fn_ok (k := 72) (N := N_large_l) (ps := ["form"]) (m := large_l_b refuter_m) F sc_large_l (by decide) (fun cdv A outer s H E B hr hB =>
  (sm_cons (sm_tryAs (es := ["Unfit", "TooLarge"]) (i := 1) (C := "HallError") rfl rfl sc_large_l.nd (by rfl) (by rfl) ⟨by rfl, by decide, .inl T.g_HallError⟩ (T.err.exm (by decide)) (takes_of rfl rfl rfl rfl) (fun W pn xe tk po =>
  (sm_one (sm_doX (px_call tk g_refuter (hr.mono (by omega)) (by rfl) (xa_cons (px (pm_v 0)) xa_nil))))) (fun a oe pn =>
  (sm_one (sm_ret (pm_bool (pm_and (pm_isE T.err (C := "TooLarge") (by decide) T.isinstance (by rfl) (by rfl) T.g_TooLarge (by rfl)) (pm_one (pm_not (pm_isE T.err (C := "Unfit") (by decide) T.isinstance (by rfl) (by rfl) T.g_Unfit (by rfl))))))))))
  (sm_one (sm_ret pm_bl)))), hm, F.kp, (F.bindsN (ps := ["form"]) fun _ _ _ _ _ _ us hl => match us, hl with | [_], _ => rfl)⟩
theorem sc_law_k08 : FnScope N_law_k08 ["script"] (defScope (top 24)) := ⟨rfl, rfl, rfl, by decide +kernel, rfl, by decide +kernel, by decide +kernel⟩
theorem ok_law (T : Tx K mg) {f : Addr} {fd : FuncData} (F : FunD K "law" "law" (defArgs (top 24)) (defBody (top 24)) (defScope (top 24)) [] [] f fd) (hm : mg "law" = some (.ref f)) : FnOk P w K mg base (L2.CX P w) 141 f fd ["script"] (spM K .per law_k08_m) := by
  have g_names_by_l : FnT P w K mg base 3 "_law_names_by" .per names_by_l_m := w_names_by_l T
  have g_cell_at_l : FnT P w K mg base 1 "_law_cell_at" .per cell_at_l_m := w_cell_at_l T
  have g_plain_l : FnT P w K mg base 71 "_law_plain" .per (plain_l_m 70) := w_plain_l T 70
  have g_next_l : FnT P w K mg base 1 "_law_next" .per next_l_m := w_next_l T
  have g_atom_l : FnT P w K mg base 1 "_law_atom" .per atom_l_m := w_atom_l T
  have g_met_l : FnT P w K mg base 70 "_law_met" .per (met_l_m 70) := w_met_l T 70
  have g_rows_like_l : FnT P w K mg base 71 "_law_rows_like" .per rows_like_l_m := w_rows_like_l T
  have g_atoms : FnT P w K mg base 71 "atoms" .per atoms_m := w_atoms T
  have g_large_l : FnT P w K mg base 73 "_law_large" .per large_l_m := w_large_l T
  have g_first_l : FnT P w K mg base 140 "_law_first" .per (first_l_m 70) := w_first_l T 70
  have g_refuter : FnT P w K mg base 72 "refuter" .per refuter_m := w_refuter T
  exact fn_ok (k := 140) (N := N_law_k08) (ps := ["script"]) (m := law_k08_b names_by_l_m cell_at_l_m (plain_l_m 70) next_l_m atom_l_m (met_l_m 70) rows_like_l_m atoms_m large_l_m (first_l_m 70) refuter_m) F sc_law_k08 (by decide) (fun cdv A outer s H E B hr hB =>
  (sm_cons (sm_set (i := 1) sc_law_k08.nd (by rfl) (by first | exact Or.inl rfl | exact Or.inr rfl) (pm_call g_names_by_l (hr.mono (by omega)) (by rfl) (pam_per (pm_call g_cell_at_l (hr.mono (by omega)) (by rfl) (pam_any (pm_va 0) (pam_per pm_int pam_nil))) pam_nil)))
  (sm_cons (sm_set (i := 2) sc_law_k08.nd (by rfl) (by first | exact Or.inl rfl | exact Or.inr rfl) (pm_call g_plain_l (hr.mono (by omega)) (by rfl) (pam_per (pm_call g_next_l (hr.mono (by omega)) (by rfl) (pam_per (pm_call g_cell_at_l (hr.mono (by omega)) (by rfl) (pam_any (pm_va 0) (pam_per pm_int pam_nil))) pam_nil)) (pam_per pm_int (pam_per (pm_v 1) (pam_per (pm_per (pm_op op_addA r2_add pm_int (pm_op op_mod r2_mod (pm_call g_cell_at_l (hr.mono (by omega)) (by rfl) (pam_any (pm_va 0) (pam_per pm_int pam_nil))) pm_int))) pam_nil))))))
  (sm_cons (sm_if (pq_cmp (op_eqA (hu200 hr)) r2_eq (pm_op op_mod r2_mod (pm_call g_cell_at_l (hr.mono (by omega)) (by rfl) (pam_any (pm_va 0) (pam_per pm_int pam_nil))) pm_int) pm_int (nomark _))
  (sm_one (sm_forR1 (i := 7) (passes_of (by rfl)) (by rfl) (by rfl) T.range (pm_op op_addA r2_add pm_int (pm_op op_mod r2_mod (pm_op op_fdiv r2_div (pm_call g_cell_at_l (hr.mono (by omega)) (by rfl) (pam_any (pm_va 0) (pam_per pm_int pam_nil))) pm_int) pm_int)) (pg_name (i := 7) sc_law_k08.nd (by rfl) (by first | exact Or.inl rfl | exact Or.inr rfl))
  (sm_one (sm_set (i := 2) sc_law_k08.nd (by rfl) (by first | exact Or.inl rfl | exact Or.inr rfl) (pm_tup (pam_per pm_str (pam_per (pm_call g_atom_l (hr.mono (by omega)) (by rfl) (pam_per (pm_op op_mod r2_mod (pm_op op_addA r2_add (pm_v 7) (pm_call g_cell_at_l (hr.mono (by omega)) (by rfl) (pam_any (pm_va 0) (pam_per pm_int pam_nil)))) pm_int) (pam_per (pm_v 1) pam_nil))) (pam_per (pm_v 2) pam_nil))))))))
  sm_nil)
  (sm_cons (sm_set (i := 3) sc_law_k08.nd (by rfl) (by first | exact Or.inl rfl | exact Or.inr rfl) (pm_call g_met_l (hr.mono (by omega)) (by rfl) (pam_per (pm_v 2) (pam_per (pm_per (pm_nf (pm_lst pam_nil))) pam_nil))))
  (sm_cons (sm_if (pq_not (pq_val (pm_call g_rows_like_l (hr.mono (by omega)) (by rfl) (pam_per (pm_call g_atoms (hr.mono (by omega)) (by rfl) (pam_per (pm_v 2) pam_nil)) (pam_per (pm_v 3) pam_nil)))))
  (sm_one (sm_ret pm_bl))
  sm_nil)
  (sm_cons (sm_if (pq_cmp op_gt r2_gt (pm_len T.len (by rfl) (pm_v 3)) pm_int (nomark _))
  (sm_one (sm_ret (pm_call g_large_l (hr.mono (by omega)) (by rfl) (pam_per (pm_v 2) pam_nil))))
  sm_nil)
  (sm_cons (sm_set (i := 4) sc_law_k08.nd (by rfl) (by first | exact Or.inl rfl | exact Or.inr rfl) (pm_call g_first_l (hr.mono (by omega)) (by rfl) (pam_per (pm_v 2) (pam_per (pm_v 3) (pam_per (pm_per (pm_nf (pm_lst pam_nil))) pam_nil)))))
  (sm_cons (sm_setX (i := 5) sc_law_k08.nd (by rfl) (by first | exact Or.inl rfl | exact Or.inr rfl) (px_call (takes_of rfl rfl rfl rfl) g_refuter (hr.mono (by omega)) (by rfl) (xa_cons (px (pm_v 2)) xa_nil)))
  (sm_cons (sm_if (PW.pt (pq_or (pq_cmp op_isN r2_isN (pm_v 4) pm_non (nomark _)) (pq_or1 (pq_cmp op_isN r2_isN (pm_v 5) pm_non (nomark _)))))
  (sm_one (sm_ret (pm_bool (pm_and (pm_cmp op_isN r2_isN (pm_v 4) pm_non (nomark _)) (pm_one (pm_cmp op_isN r2_isN (pm_v 5) pm_non (nomark _)))))))
  sm_nil)
  (sm_cons (sm_if (PW.pt (pq_or (pq_not (pq_val (pm_isi T.isinstance (by rfl) boot_list T.list (by rfl) (pm_v 5)))) (pq_or1 (pq_cmp (op_neA (hu200 hr)) r2_ne (pm_len T.len (by rfl) (pm_v 5)) (pm_len T.len (by rfl) (pm_v 4)) (nomark _)))))
  (sm_one (sm_ret pm_bl))
  sm_nil)
  (sm_cons (sm_for (i := 6) (passes_of (by rfl)) (by rfl) (pl_of (pm_fre (pm_v 5))) (pg_name (i := 6) sc_law_k08.nd (by rfl) (by first | exact Or.inl rfl | exact Or.inr rfl))
  (sm_one (sm_if (pq_not (pq_val (pm_isi T.isinstance (by rfl) boot_bool T.bool (by rfl) (pm_v 6))))
  (sm_one (sm_ret pm_bl))
  sm_nil)))
  (sm_one (sm_ret (pm_cmp (op_eqA (hu200 hr)) r2_eq (pm_v 5) (pm_v 4) (nomark _))))))))))))))))
end
end Lw

set_option maxHeartbeats 0
namespace Lw
open PySem PySem.Spec PyProof.Rows L2 PL
abbrev R : PySem.W.OpenRow := PySem.W.OpenLaw.row PySem.Challenge.rw_surehall_k08_refuter
abbrev hk : PySem.W.Hook := PL.hookX 5 (errB ["Unfit", "TooLarge"] ["HallError", "Unfit", "TooLarge"]) fa fn
def ob (s : PySem.W.SharedT) : He.AlD := PL.obsXG 5 (errB ["Unfit", "TooLarge"] ["HallError", "Unfit", "TooLarge"]) fa fn (HandSHeadRun.getT s)
theorem ob_eq (s : PySem.W.SharedT) : ob s = hk.obs s.abs := PL.obsXG_eq (HandSHeadRun.getT_eq s)
def loose : List Str := ((["HallError",
  "Unfit",
  "TooLarge",
  "gone_through",
  "atoms",
  "so_under",
  "rows_of",
  "refuter",
  "_law_cell_at",
  "_law_next",
  "_law_part",
  "_law_name_by",
  "_law_names_by",
  "_law_like",
  "_law_rows_like",
  "_law_atom",
  "_law_plain",
  "_law_met",
  "_law_so",
  "_law_first",
  "_law_large"] : List Str))
theorem run (w : World) : HandSHeadRun.RunEq R (PySem.W.view R.prog [24]) hk ob 6000 loose w := by
  intro os
  kernel_rfl
end Lw
open PySem PySem.W PySem.Calls PyProof.Rows
theorem PySem.Challenge.cw_surehall_k08_refuter_holds : PySem.Challenge.rw_surehall_k08_refuter.Holds := by
  w_on; o_law
  refine HandSHeadRun.head_any (r := OpenLaw.row PySem.Challenge.rw_surehall_k08_refuter) (q := view (OpenLaw.row PySem.Challenge.rw_surehall_k08_refuter).prog [24]) (H := Lw.hk) (ob := Lw.ob) (M := 6000) (loose := Lw.loose) (d := HandSHeadRun.topDef (OpenLaw.row PySem.Challenge.rw_surehall_k08_refuter).prog 24) (kwd := []) Lw.ob_eq
    (by kernel_rfl) (fun s => by kernel_rfl) Lw.run (by kernel_rfl) (by kernel_rfl) (by kernel_rfl) (by rfl) (by first | assumption | decide +kernel) (by decide +kernel) ⟨rfl, rfl, rfl, rfl, rfl, by decide +kernel⟩ ?hw ?hc
  case hw => w_witness2
  case hc =>
    refine PL.walk_law (l := PySem.Challenge.rw_surehall_k08_refuter) (n := 63) (k := 141) (x := "script") (fm := PL.law_k08_m) rfl (by decide) (by kernel_rfl) ⟨rfl, by decide, by decide⟩ ?F PL.law_k08_true
    intro w mg fa h Y G hmg0
    obtain ⟨K, KX, c⟩ := Y
    have hmg : mg ("law" : PySem.Str) = some (.ref fa) := by
      have e : (HandSHeadRun.topDef (OpenLaw.row PySem.Challenge.rw_surehall_k08_refuter).prog 24).name = ("law" : PySem.Str) := by kernel_rfl
      rw [← e]
      exact hmg0
    obtain ⟨ferr, c⟩ := c.d
    have T := Lw.Tx_of KX G c ferr
    obtain ⟨f, fd, F, hf⟩ := T.d_law_k08
    rw [hmg] at hf
    cases hf
    exact ⟨K, fd, KX, fun s v => F.bindsA (ps := ["script"]) (fun _ _ _ _ _ _ us hl => match us, hl with | [_], _ => rfl) s [v] rfl, fun base _ _ => Lw.ok_law (P := (PySem.Challenge.rw_surehall_k08_refuter).prog) (w := w) (base := base) T F hmg⟩

