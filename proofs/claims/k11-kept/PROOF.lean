import PyProof.Rows.All
import HandS.Codes
import HandS.ForExc
import HandS.Comp
import HandS.Text
import HandS.IsInst
import HandS.Zip
import HandS.Defaults
import HandS.HeadHook2
import KE.KDictKeyed
import HandS.Deep
import HandS.Iter
import HandS.ExcOwn
import HandS.TryMany
import HandS.ExcIs
import HandS.SetFor
import HandS.Strs
import HandS.Dict
import HandS.Conv
import HandS.SortInts
import HandS.More
import HandS.TryOnly
import HandS.HotCalls
import HandS.CallSlots
import HandS.HeadEnd
import HandS.Head0
import HandS.Head1
import HandS.Head2
import PySem.Challenge.RW_surehall_k11_kept
set_option Elab.async false
set_option linter.all false
set_option maxRecDepth 100000
set_option maxHeartbeats 4000000
/- PL: a layer of value readings over HandS. A def is told by a mirror over PyData; lists that stay are frozen. -/
namespace PL
open PySem PySem.Spec PyProof.Rows L2

/-! ### data in the heap that nothing turns -/
mutual
inductive Rp (K : PySem.W.Frag) (H : Hp) : V → PyData → Prop
  | non : Rp K H .non .none
  | bl (b : Bool) : Rp K H (.bl b) (.bool b)
  | int (i : Int) : Rp K H (.int i) (.int i)
  | str (x : Str) : Rp K H (.str x) (.str x)
  | lst {a : Addr} {o : Obj} {xs : List V} {ds : List PyData} : H a = some (.frz o (.lst xs)) → Rps K H xs ds → Rp K H (.ref a) (.list ds)
  | tup {a : Addr} {xs : List V} {ds : List PyData} : SqT K H a xs → Rps K H xs ds → Rp K H (.ref a) (.tuple ds)
inductive Rps (K : PySem.W.Frag) (H : Hp) : List V → List PyData → Prop
  | nil : Rps K H [] []
  | cons {v : V} {vs : List V} {d : PyData} {ds : List PyData} : Rp K H v d → Rps K H vs ds → Rps K H (v :: vs) (d :: ds)
end
/-- tuples and what is frozen stand as they stood -/
structure Firm (H H' : Hp) : Prop where
  tup : ∀ b xs, H b = some (.tup xs) → H' b = some (.tup xs)
  frz : ∀ b o u, H b = some (.frz o u) → H' b = some (.frz o u)
theorem Firm.refl (H : Hp) : Firm H H := ⟨fun _ _ h => h, fun _ _ _ h => h⟩
theorem Firm.trans {H H1 H2 : Hp} (a : Firm H H1) (b : Firm H1 H2) : Firm H H2 := ⟨fun c xs h => b.tup c xs (a.tup c xs h), fun c o u h => b.frz c o u (a.frz c o u h)⟩
theorem firm {H H' : Hp} (s : Same H H') : Firm H H' := ⟨fun b _ h => s b _ h, fun b _ _ h => s b _ h⟩
theorem Firm.sqt {K : PySem.W.Frag} {H H' : Hp} (f : Firm H H') {a : Addr} {xs : List V} (h : SqT K H a xs) : SqT K H' a xs := by
  rcases h with (h | ⟨o, h⟩) | h
  · exact .inl (.inl (f.tup _ _ h))
  · exact .inl (.inr ⟨o, f.frz _ _ _ h⟩)
  · exact .inr h
mutual
theorem Rp.mono {K : PySem.W.Frag} {H H' : Hp} (f : Firm H H') : ∀ {d : PyData} {v : V}, Rp K H v d → Rp K H' v d
  | .none, _, h => by cases h; exact .non
  | .bool b, _, h => by cases h; exact .bl b
  | .int i, _, h => by cases h; exact .int i
  | .str x, _, h => by cases h; exact .str x
  | .list ds, _, h => by cases h with | lst e r => exact .lst (f.frz _ _ _ e) (Rps.mono f r)
  | .tuple ds, _, h => by cases h with | tup e r => exact .tup (f.sqt e) (Rps.mono f r)
  | .dict _, _, h => by cases h
theorem Rps.mono {K : PySem.W.Frag} {H H' : Hp} (f : Firm H H') : ∀ {ds : List PyData} {vs : List V}, Rps K H vs ds → Rps K H' vs ds
  | [], _, h => by cases h; exact .nil
  | _ :: _, _, h => by cases h with | cons a b => exact .cons (Rp.mono f a) (Rps.mono f b)
end
section
variable {K : PySem.W.Frag} {H : Hp}
theorem Rps.length : ∀ {vs : List V} {ds : List PyData}, Rps K H vs ds → vs.length = ds.length
  | _, _, .nil => rfl
  | _, _, .cons _ r => congrArg Nat.succ r.length
theorem Rps.append : ∀ {vs ws : List V} {ds es : List PyData}, Rps K H vs ds → Rps K H ws es → Rps K H (vs ++ ws) (ds ++ es)
  | _, _, _, _, .nil, s => s
  | _, _, _, _, .cons a r, s => .cons a (r.append s)
theorem Rps.one {v : V} {d : PyData} (h : Rp K H v d) : Rps K H [v] [d] := .cons h .nil
theorem Rps.get : ∀ {vs : List V} {ds : List PyData} {i : Nat} {d : PyData}, Rps K H vs ds → ds[i]? = some d → ∃ v, vs[i]? = some v ∧ Rp K H v d
  | _, _, _, _, .nil, e => by simp at e
  | _, _, 0, _, .cons a _, e => by simp at e; subst e; exact ⟨_, rfl, a⟩
  | _, _, i + 1, d, .cons _ r, e => by
    obtain ⟨v, h1, h2⟩ := Rps.get (i := i) (d := d) r (by simpa using e)
    exact ⟨v, by simpa using h1, h2⟩
theorem Rps.get' : ∀ {vs : List V} {ds : List PyData} {i : Nat} {v : V}, Rps K H vs ds → vs[i]? = some v → ∃ d, ds[i]? = some d ∧ Rp K H v d
  | _, _, _, _, .nil, e => by simp at e
  | _, _, 0, _, .cons a _, e => by simp at e; subst e; exact ⟨_, rfl, a⟩
  | _, _, i + 1, v, .cons _ r, e => by
    obtain ⟨d, h1, h2⟩ := Rps.get' (i := i) (v := v) r (by simpa using e)
    exact ⟨d, by simpa using h1, h2⟩
theorem Rps.take : ∀ {vs : List V} {ds : List PyData} (n : Nat), Rps K H vs ds → Rps K H (vs.take n) (ds.take n)
  | _, _, 0, _ => .nil
  | _, _, _ + 1, .nil => .nil
  | _, _, n + 1, .cons a r => .cons a (Rps.take n r)
theorem Rps.drop : ∀ {vs : List V} {ds : List PyData} (n : Nat), Rps K H vs ds → Rps K H (vs.drop n) (ds.drop n)
  | _, _, 0, r => r
  | _, _, _ + 1, .nil => .nil
  | _, _, n + 1, .cons _ r => Rps.drop n r
theorem Rps.dropLast {vs : List V} {ds : List PyData} (h : Rps K H vs ds) : Rps K H vs.dropLast ds.dropLast := by
  rw [List.dropLast_eq_take, List.dropLast_eq_take, h.length]
  exact h.take _
theorem Rps.insert : ∀ {vs : List V} {ds : List PyData} {v : V} {d : PyData} (n : Nat), Rps K H vs ds → Rp K H v d → Rps K H (vs.take n ++ v :: vs.drop n) (ds.take n ++ d :: ds.drop n) :=
  fun n r h => (r.take n).append (.cons h (r.drop n))
mutual
theorem Rp.dp : ∀ {d : PyData} {v : V}, Rp K H v d → Dp K H v d
  | .none, _, h => by cases h; exact .non
  | .bool b, _, h => by cases h; exact .bl b
  | .int i, _, h => by cases h; exact .int i
  | .str x, _, h => by cases h; exact .str x
  | .list ds, _, h => by cases h with | lst e r => exact .lst (.inl (.inr ⟨_, e⟩)) (Rps.dp r)
  | .tuple ds, _, h => by cases h with | tup e r => exact .tup e (Rps.dp r)
  | .dict _, _, h => by cases h
theorem Rps.dp : ∀ {ds : List PyData} {vs : List V}, Rps K H vs ds → DpAll K H vs ds
  | [], _, h => by cases h; exact .nil
  | _ :: _, _, h => by cases h with | cons a b => exact .cons (Rp.dp a) (Rps.dp b)
end
end

/-! ### data that may be read now: that, or a list of it -/
inductive RpA (K : PySem.W.Frag) (H : Hp) : V → PyData → Prop
  | per {v : V} {d : PyData} : Rp K H v d → RpA K H v d
  | seq {a : Addr} {xs : List V} {ds : List PyData} : SqL K H a xs → Rps K H xs ds → RpA K H (.ref a) (.list ds)
theorem RpA.mono {K : PySem.W.Frag} {H H' : Hp} (s : Same H H') {v : V} {d : PyData} (h : RpA K H v d) : RpA K H' v d := by
  cases h with
  | per h => exact .per (h.mono (firm s))
  | seq e r => exact .seq (s.seq e) (r.mono (firm s))
section
variable {K : PySem.W.Frag} {H : Hp} {v : V}
theorem RpA.int {i : Int} (h : RpA K H v (.int i)) : v = .int i := by cases h with | per h => cases h; rfl
theorem RpA.bool {b : Bool} (h : RpA K H v (.bool b)) : v = .bl b := by cases h with | per h => cases h; rfl
theorem RpA.str {x : Str} (h : RpA K H v (.str x)) : v = .str x := by cases h with | per h => cases h; rfl
theorem RpA.none (h : RpA K H v .none) : v = .non := by cases h with | per h => cases h; rfl
theorem RpA.tuple {ds : List PyData} (h : RpA K H v (.tuple ds)) : ∃ a xs, v = .ref a ∧ SqT K H a xs ∧ Rps K H xs ds := by
  cases h with | per h => cases h with | tup e r => exact ⟨_, _, rfl, e, r⟩
theorem RpA.list {ds : List PyData} (h : RpA K H v (.list ds)) : ∃ a xs, v = .ref a ∧ SqL K H a xs ∧ Rps K H xs ds := by
  cases h with
  | per h => cases h with | lst e r => exact ⟨_, _, rfl, .inl (.inr ⟨_, e⟩), r⟩
  | seq e r => exact ⟨_, _, rfl, e, r⟩
theorem RpA.dp {d : PyData} (h : RpA K H v d) : Dp K H v d := by
  cases h with
  | per h => exact h.dp
  | seq e r => exact .lst e r.dp
theorem RpA.nodict {kvs} (h : RpA K H v (.dict kvs)) : False := by cases h with | per h => cases h
end

/-! ### what is known of a value that came: it stays; or it is a new list; or it may be read now -/
inductive Kd where
  | per | new | fre | any
def RK (K : PySem.W.Frag) : Kd → Hp → Hp → V → PyData → Prop
  | .per, _, H', v, d => Rp K H' v d
  | .new, H, H', v, d => ∃ a xs ds, v = .ref a ∧ d = .list ds ∧ H a = none ∧ H' a = some (.lst xs) ∧ Rps K H' xs ds
  | .fre, H, H', v, d => Rp K H' v d ∨ ∃ a xs ds, v = .ref a ∧ d = .list ds ∧ H a = none ∧ H' a = some (.lst xs) ∧ Rps K H' xs ds
  | .any, _, H', v, d => RpA K H' v d
theorem RK.toAny {K : PySem.W.Frag} {k : Kd} {H H' : Hp} {v : V} {d : PyData} (h : RK K k H H' v d) : RpA K H' v d := by
  cases k with
  | per => exact .per h
  | new =>
    obtain ⟨a, xs, ds, rfl, rfl, _, e, r⟩ := h
    exact .seq (.of e) r
  | fre =>
    rcases h with h | ⟨a, xs, ds, rfl, rfl, _, e, r⟩
    · exact .per h
    · exact .seq (.of e) r
  | any => exact h
theorem RK.back {K : PySem.W.Frag} {k : Kd} {H0 H H' : Hp} {v : V} {d : PyData} (s : Same H0 H) (h : RK K k H H' v d) : RK K k H0 H' v d := by
  cases k with
  | per => exact h
  | new =>
    obtain ⟨a, xs, ds, e1, e2, n, e, r⟩ := h
    exact ⟨a, xs, ds, e1, e2, s.free n, e, r⟩
  | fre =>
    rcases h with h | ⟨a, xs, ds, e1, e2, n, e, r⟩
    · exact .inl h
    · exact .inr ⟨a, xs, ds, e1, e2, s.free n, e, r⟩
  | any => exact h

/-! ### dicts whose keys are tuples of what may nest -/
abbrev PgW := Program × World
mutual
def keyOf : PyData → Option NestedKey
  | .none => some .none
  | .int i => some (.num i)
  | .str x => some (.text x)
  | .tuple ds => (keysOf ds).map .tup
  | _ => none
def keysOf : List PyData → Option (List NestedKey)
  | [] => some []
  | d :: ds => (keyOf d).bind fun k => (keysOf ds).map (k :: ·)
end
/-- what is so of the dict's own object: es the keys, where their tuples stand, the values -/
def mapP (pw : PgW) (x : Addr) (es : List (NestedKey × Addr × V)) : Heap → Prop := fun h => (x == sysModules) = false ∧ es.length ≤ sizeLine ∧
  ∃ xs : List (NestedKey × Addr × Value), Paired (fun (p : NestedKey × Addr × V) (q : NestedKey × Addr × Value) => p.1 = q.1 ∧ p.2.1 = q.2.1 ∧ RelV p.2.2 q.2.2) es xs ∧
    ∃ o en ep, h.get? x = some o ∧ o.ExactDict ∧ o.data = .dict en ep ∧ en.toList = xs.map (entryOfKey (nestedKind pw.1 pw.2)) ∧ (xs.map (·.1)).Nodup
inductive MapRep (K : PySem.W.Frag) (H : Hp) : List (NestedKey × PyData) → List (NestedKey × Addr × V) → Prop
  | nil : MapRep K H [] []
  | cons {k : NestedKey} {a : Addr} {v : V} {d kd : PyData} {kvs es} : Rp K H (.ref a) kd → keyOf kd = some k → k.depth ≤ 8 → Rp K H v d → MapRep K H kvs es → MapRep K H ((k, d) :: kvs) ((k, a, v) :: es)
theorem MapRep.mono {K : PySem.W.Frag} {H H' : Hp} {kvs es} (h : MapRep K H kvs es) (f : Firm H H') : MapRep K H' kvs es := by
  induction h with
  | nil => exact .nil
  | cons r1 e l r2 _ ih => exact .cons (r1.mono f) e l (r2.mono f) ih
/-! ### slots -/
/-- a thing that is a slot's own -/
inductive Fl where
  | d (d : PyData) | l (ds : List PyData) | m (pw : PgW) (kvs : List (NestedKey × PyData))
inductive Ob where
  | lst (ds : List PyData)
  | ins (C : Str) (fs : List (Str × Fl))
  | dct (ks : List Int)
  | map (pw : PgW) (kvs : List (NestedKey × PyData))
  | two (a b : Ob)
  | pr (ds : List PyData) (d : PyData)
  | shl
inductive Sl where
  | nil | d (d : PyData) | b (ds : List PyData) | o (ob : Ob) | r (ob : Ob) | x (c : Str)
abbrev Rho := List Sl
/-- a written list -/
def KL (K : PySem.W.Frag) (a : Addr) (xs : List V) : Prop := ∃ (o : Obj) (its : Array Value) (n : Nat), K.lookup a = some o ∧ o.cls = .type "list" ∧ o.dict = none ∧ o.data = .seq its n ∧ its.size ≤ sizeLine ∧ Vals xs its.toList
theorem sql_iff {K : PySem.W.Frag} {H : Hp} {a : Addr} {xs : List V} : SqL K H a xs ↔ Rd H a (.lst xs) ∨ KL K a xs := Iff.rfl
/-- an instance's fields: fp what they stand at -/
inductive FlsRep (K : PySem.W.Frag) (H : Hp) : List (Str × Fl) → List (Str × V) → (Addr → Prop) → Prop
  | nil : FlsRep K H [] [] (fun _ => False)
  | d {n : Str} {d : PyData} {v : V} {fs vs fp} : Rp K H v d → FlsRep K H fs vs fp → FlsRep K H ((n, .d d) :: fs) ((n, v) :: vs) fp
  | l {n : Str} {ds : List PyData} {xs : List V} {a : Addr} {fs vs fp} : H a = some (.lst xs) → Rps K H xs ds → ¬ fp a → FlsRep K H fs vs fp → FlsRep K H ((n, .l ds) :: fs) ((n, .ref a) :: vs) (fun b => b = a ∨ fp b)
  | m {n : Str} {pw : PgW} {kvs : List (NestedKey × PyData)} {es : List (NestedKey × Addr × V)} {a : Addr} {fs vs fp} : H a = some (.ext (mapP pw a es)) → MapRep K H kvs es → ¬ fp a → FlsRep K H fs vs fp → FlsRep K H ((n, .m pw kvs) :: fs) ((n, .ref a) :: vs) (fun b => b = a ∨ fp b)
/-- a dict of numbers, each with True -/
abbrev dkOf (ks : List Int) : List (Key × V) := ks.map fun i => (.inl i, .bl true)
/-- x stands for the thing, all of it at fp -/
inductive OwnRep (K : PySem.W.Frag) (H : Hp) : (Addr → Prop) → Addr → Ob → Prop
  | lst {x : Addr} {xs : List V} {ds : List PyData} : H x = some (.lst xs) → Rps K H xs ds → OwnRep K H (fun b => b = x) x (.lst ds)
  | ins {x dx : Addr} {C : Str} {fs : List (Str × Fl)} {vs : List (Str × V)} {fp : Addr → Prop} : H x = some (.ins (He.ga K C) dx vs) → H dx = some (.own x) → FlsRep K H fs vs fp → OwnRep K H (fun b => b = x ∨ b = dx ∨ fp b) x (.ins C fs)
  | dct {x : Addr} {ks : List Int} : H x = some (.dK (dkOf ks)) → OwnRep K H (fun b => b = x) x (.dct ks)
  | map {x : Addr} {pw : PgW} {kvs : List (NestedKey × PyData)} {es : List (NestedKey × Addr × V)} : H x = some (.ext (mapP pw x es)) → MapRep K H kvs es → OwnRep K H (fun b => b = x) x (.map pw kvs)
  | two {x a b : Addr} {oa ob : Ob} {fa fb : Addr → Prop} : H x = some (.lst [.ref a, .ref b]) → OwnRep K H fa a oa → OwnRep K H fb b ob → (∀ c, fa c → ¬ fb c) → ¬ fa x → ¬ fb x → OwnRep K H (fun c => c = x ∨ fa c ∨ fb c) x (.two oa ob)
  | pr {x a : Addr} {w : V} {xs : List V} {ds : List PyData} {d : PyData} : SqT K H x [.ref a, w] → H a = some (.lst xs) → Rps K H xs ds → Rp K H w d → OwnRep K H (fun b => b = a) x (.pr ds d)
  | shl {x : Addr} {xs : List V} : H x = some (.lst xs) → OwnRep K H (fun b => b = x) x .shl
/-- an object that may turn -/
def Soft : HO → Prop
  | .tup _ => False
  | .frz _ _ => False
  | _ => True
section
variable {K : PySem.W.Frag} {H H' : Hp} {fp : Addr → Prop}
theorem FlsRep.mono {fs : List (Str × Fl)} {vs : List (Str × V)} (h : FlsRep K H fs vs fp) (f : Firm H H') (k : ∀ b o, fp b → H b = some o → H' b = some o) : FlsRep K H' fs vs fp := by
  induction h with
  | nil => exact .nil
  | d r _ ih => exact .d (r.mono f) (ih k)
  | l e r n _ ih => exact .l (k _ _ (.inl rfl) e) (r.mono f) n (ih fun b o hb => k b o (.inr hb))
  | m e r n _ ih => exact .m (k _ _ (.inl rfl) e) (r.mono f) n (ih fun b o hb => k b o (.inr hb))
theorem FlsRep.soft {fs : List (Str × Fl)} {vs : List (Str × V)} (h : FlsRep K H fs vs fp) : ∀ b, fp b → ∃ o, H b = some o ∧ Soft o := by
  induction h with
  | nil => exact fun _ z => z.elim
  | d _ _ ih => exact ih
  | l e _ _ _ ih =>
    intro b hb
    rcases hb with z | z
    · subst z; exact ⟨_, e, trivial⟩
    · exact ih b z
  | m e _ _ _ ih =>
    intro b hb
    rcases hb with z | z
    · subst z; exact ⟨_, e, trivial⟩
    · exact ih b z
theorem OwnRep.mono {x : Addr} {ob : Ob} (h : OwnRep K H fp x ob) (f : Firm H H') (k : ∀ b o, fp b → H b = some o → H' b = some o) : OwnRep K H' fp x ob := by
  induction h with
  | lst e r => exact .lst (k _ _ rfl e) (r.mono f)
  | ins e e2 r => exact .ins (k _ _ (.inl rfl) e) (k _ _ (.inr (.inl rfl)) e2) (r.mono f fun b o hb => k b o (.inr (.inr hb)))
  | dct e => exact .dct (k _ _ rfl e)
  | map e r => exact .map (k _ _ rfl e) (r.mono f)
  | two e _ _ d n1 n2 iha ihb => exact .two (k _ _ (.inl rfl) e) (iha fun b o hb => k b o (.inr (.inl hb))) (ihb fun b o hb => k b o (.inr (.inr hb))) d n1 n2
  | pr e e2 r rw => exact .pr (f.sqt e) (k _ _ rfl e2) (r.mono f) (Rp.mono f rw)
  | shl e => exact .shl (k _ _ rfl e)
theorem OwnRep.soft {x : Addr} {ob : Ob} (h : OwnRep K H fp x ob) : ∀ b, fp b → ∃ o, H b = some o ∧ Soft o := by
  induction h with
  | lst e r =>
    intro b hb
    have z := hb
    subst z
    exact ⟨_, e, trivial⟩
  | dct e =>
    intro b hb
    have z := hb
    subst z
    exact ⟨_, e, trivial⟩
  | map e _ =>
    intro b hb
    have z := hb
    subst z
    exact ⟨_, e, trivial⟩
  | ins e e2 r =>
    intro b hb
    rcases hb with z | z | z
    · subst z; exact ⟨_, e, trivial⟩
    · subst z; exact ⟨_, e2, trivial⟩
    · exact r.soft b z
  | two e _ _ _ _ _ iha ihb =>
    intro b hb
    rcases hb with z | z | z
    · subst z; exact ⟨_, e, trivial⟩
    · exact iha b z
    · exact ihb b z
  | pr _ e _ _ =>
    intro b hb
    have z := hb
    subst z
    exact ⟨_, e, trivial⟩
  | shl e =>
    intro b hb
    have z := hb
    subst z
    exact ⟨_, e, trivial⟩
end
/-- a slot's thing; all: what all the slots' own things stand at; fp: this one's -/
inductive SlOk (K : PySem.W.Frag) (H : Hp) (all fp : Addr → Prop) : Option (Option V) → Sl → Prop
  | nil {v : Option (Option V)} : (∀ b, ¬ fp b) → SlOk K H all fp v .nil
  | d {v : V} {d : PyData} : Rp K H v d → (∀ b, ¬ fp b) → SlOk K H all fp (some (some v)) (.d d)
  | b {a : Addr} {xs : List V} {ds : List PyData} : (Rd H a (.lst xs) ∧ ¬ all a) ∨ KL K a xs → Rps K H xs ds → (∀ b, ¬ fp b) → SlOk K H all fp (some (some (.ref a))) (.b ds)
  | o {x : Addr} {ob : Ob} : OwnRep K H fp x ob → SlOk K H all fp (some (some (.ref x))) (.o ob)
  | r {x : Addr} {ob : Ob} {f2 : Addr → Prop} : OwnRep K H f2 x ob → (∀ b, f2 b → ¬ all b) → (∀ b, ¬ fp b) → SlOk K H all fp (some (some (.ref x))) (.r ob)
  | x {v : Option (Option V)} {c : Str} : (∀ b, ¬ fp b) → SlOk K H all fp v (.x c)
/-- what is caught stands in its slot -/
abbrev XO := Nat → Option (Addr × Obj)
def XoOk (K : PySem.W.Frag) (xo : XO) (σ : L2.St) (ρ : Rho) : Prop := ∀ i c, ρ[i]? = some (.x c) → ∃ a oe, xo i = some (a, oe) ∧ σ[i]? = some (some (.ref a)) ∧ Zc (.ref (He.ga K c)) none oe ∧ ∃ vs, oe.data = .fields vs
theorem XoOk.set {K : PySem.W.Frag} {xo : XO} {σ : L2.St} {ρ : Rho} (h : XoOk K xo σ ρ) (i : Nat) (v : Option V) {s : Sl} (hs : ∀ c, s ≠ .x c) : XoOk K xo (σ.set i v) (ρ.set i s) := fun j c q => by
  by_cases e : i = j
  · subst e
    by_cases hl : i < ρ.length
    · rw [List.getElem?_set_self hl] at q; cases q; exact absurd rfl (hs c)
    · rw [List.getElem?_eq_none (by simpa using hl)] at q; cases q
  · rw [List.getElem?_set_ne e] at q ⊢
    exact h j c q
theorem XoOk.setR {K : PySem.W.Frag} {xo : XO} {σ : L2.St} {ρ : Rho} (h : XoOk K xo σ ρ) (i : Nat) {s : Sl} (hs : ∀ c, s ≠ .x c) : XoOk K xo σ (ρ.set i s) := fun j c q => by
  by_cases e : i = j
  · subst e
    by_cases hl : i < ρ.length
    · rw [List.getElem?_set_self hl] at q; cases q; exact absurd rfl (hs c)
    · rw [List.getElem?_eq_none (by simpa using hl)] at q; cases q
  · rw [List.getElem?_set_ne e] at q
    exact h j c q
/-- a def's entry: its heap, what its callers' own things handed in stand at, which slots they are in -/
structure Bd where
  H0 : Hp
  F0 : Addr → Prop
  io : Nat → Option Addr
  xo : XO := fun _ => none
structure EnvOk (K : PySem.W.Frag) (B : Bd) (H : Hp) (σ : L2.St) (ρ : Rho) (φ : Nat → Addr → Prop) : Prop where
  len : σ.length = ρ.length
  sl : ∀ i s, ρ[i]? = some s → SlOk K H (fun b => ∃ j, φ j b) (φ i) σ[i]? s
  out : ∀ i, ρ[i]? = none → ∀ b, ¬ φ i b
  dis : ∀ i j b, φ i b → φ j b → i = j
  frm : ∀ b o, ¬ B.F0 b → B.H0 b = some o → H b = some o
  frz : ∀ b, B.F0 b → ∃ o, H b = some o
  sub : ∀ i b, φ i b → B.F0 b ∨ B.H0 b = none
  io : ∀ i x, B.io i = some x → σ[i]? = some (some (.ref x)) ∧ ∃ ob, ρ[i]? = some (.o ob)
  xo : XoOk K B.xo σ ρ

/-! ### what a slot's reading needs -/
inductive RdSl (K : PySem.W.Frag) (H : Hp) : Option (Option V) → Sl → Prop
  | nil {v : Option (Option V)} : RdSl K H v .nil
  | d {v : V} {d : PyData} : Rp K H v d → RdSl K H (some (some v)) (.d d)
  | b {a : Addr} {xs : List V} {ds : List PyData} : SqL K H a xs → Rps K H xs ds → RdSl K H (some (some (.ref a))) (.b ds)
  | o {x : Addr} {ob : Ob} {fp : Addr → Prop} : OwnRep K H fp x ob → RdSl K H (some (some (.ref x))) (.o ob)
  | r {x : Addr} {ob : Ob} {fp : Addr → Prop} : OwnRep K H fp x ob → RdSl K H (some (some (.ref x))) (.r ob)
  | x {v : Option (Option V)} {c : Str} : RdSl K H v (.x c)
structure RdOk (K : PySem.W.Frag) (xo : XO) (H : Hp) (σ : L2.St) (ρ : Rho) : Prop where
  rd : ∀ (i : Nat) (s : Sl), ρ[i]? = some s → RdSl K H σ[i]? s
  xo : XoOk K xo σ ρ
theorem RdSl.mono {K : PySem.W.Frag} {H H' : Hp} (e : Same H H') {v s} (h : RdSl K H v s) : RdSl K H' v s := by
  cases h with
  | nil => exact .nil
  | d r => exact .d (r.mono (firm e))
  | b q r => exact .b (e.seq q) (r.mono (firm e))
  | o r => exact .o (r.mono (firm e) fun b o _ => e b o)
  | r r => exact .r (r.mono (firm e) fun b o _ => e b o)
  | x => exact .x
theorem RdOk.mono {K : PySem.W.Frag} {xo : XO} {H H' : Hp} (e : Same H H') {σ ρ} (h : RdOk K xo H σ ρ) : RdOk K xo H' σ ρ := ⟨fun i s q => (h.rd i s q).mono e, h.xo⟩
theorem SlOk.rd {K : PySem.W.Frag} {H : Hp} {all fp : Addr → Prop} {v s} (h : SlOk K H all fp v s) : RdSl K H v s := by
  cases h with
  | nil _ => exact .nil
  | d r _ => exact .d r
  | b q r _ => exact .b (q.elim (fun z => .inl z.1) .inr) r
  | o r => exact .o r
  | r r _ _ => exact .r r
  | x _ => exact .x
theorem EnvOk.rd {K : PySem.W.Frag} {B : Bd} {H : Hp} {σ : L2.St} {ρ : Rho} {φ : Nat → Addr → Prop} (h : EnvOk K B H σ ρ φ) : RdOk K B.xo H σ ρ := ⟨fun i s e => (h.sl i s e).rd, h.xo⟩
theorem SlOk.mono {K : PySem.W.Frag} {H H' : Hp} {all fp : Addr → Prop} {v s} (e : Same H H') (h : SlOk K H all fp v s) : SlOk K H' all fp v s := by
  cases h with
  | nil z => exact .nil z
  | d r z => exact .d (r.mono (firm e)) z
  | b q r z =>
    refine .b (q.imp (fun z => ⟨?_, z.2⟩) id) (r.mono (firm e)) z
    rcases z.1 with y | ⟨o, y⟩
    · exact .inl (e _ _ y)
    · exact .inr ⟨o, e _ _ y⟩
  | o r => exact .o (r.mono (firm e) fun b o _ => e b o)
  | r r n z => exact .r (r.mono (firm e) fun b o _ => e b o) n z
  | x z => exact .x z
/-- new things laid: all stands -/
theorem EnvOk.same {K : PySem.W.Frag} {B : Bd} {H H' : Hp} {σ : L2.St} {ρ : Rho} {φ : Nat → Addr → Prop} (h : EnvOk K B H σ ρ φ) (e : Same H H') : EnvOk K B H' σ ρ φ :=
  ⟨h.len, fun i s q => (h.sl i s q).mono e, h.out, h.dis, fun b o n q => e b o (h.frm b o n q), fun b z => let ⟨o, q⟩ := h.frz b z; ⟨o, e b o q⟩, h.sub, h.io, h.xo⟩
theorem EnvOk.there {K : PySem.W.Frag} {B : Bd} {H : Hp} {σ : L2.St} {ρ : Rho} {φ : Nat → Addr → Prop} (h : EnvOk K B H σ ρ φ) {i : Nat} {b : Addr} (hb : φ i b) : ∃ o, H b = some o ∧ Soft o := by
  cases q : ρ[i]? with
  | none => exact absurd hb (h.out i q b)
  | some s =>
    have z := h.sl i s q
    cases s with
    | o ob => generalize σ[i]? = v at z; cases z with | o r => exact r.soft b hb
    | nil => generalize σ[i]? = v at z; cases z with | nil n => exact absurd hb (n b)
    | d x => generalize σ[i]? = v at z; cases z with | d _ n => exact absurd hb (n b)
    | b x => generalize σ[i]? = v at z; cases z with | b _ _ n => exact absurd hb (n b)
    | r x => generalize σ[i]? = v at z; cases z with | r _ _ n => exact absurd hb (n b)
    | x x => generalize σ[i]? = v at z; cases z with | x n => exact absurd hb (n b)
/-- an address of nothing: not at entry either -/
theorem EnvOk.new0 {K : PySem.W.Frag} {B : Bd} {H : Hp} {σ : L2.St} {ρ : Rho} {φ : Nat → Addr → Prop} (h : EnvOk K B H σ ρ φ) {a : Addr} (n : H a = none) : B.H0 a = none ∧ ¬ B.F0 a := by
  have nf : ¬ B.F0 a := fun z => by obtain ⟨o, q⟩ := h.frz a z; rw [n] at q; cases q
  refine ⟨?_, nf⟩
  cases q : B.H0 a with
  | none => rfl
  | some o => have := h.frm a o nf q; rw [n] at this; cases this
theorem EnvOk.notOwn {K : PySem.W.Frag} {B : Bd} {H : Hp} {σ : L2.St} {ρ : Rho} {φ : Nat → Addr → Prop} (h : EnvOk K B H σ ρ φ) {i : Nat} (hn : ∀ ob, ρ[i]? ≠ some (.o ob)) : ∀ b, ¬ φ i b := fun b hb => by
  cases q : ρ[i]? with
  | none => exact h.out i q b hb
  | some s =>
    have z := h.sl i s q
    cases s with
    | o ob => exact hn ob q
    | nil => generalize σ[i]? = v at z; cases z with | nil n => exact n b hb
    | d x => generalize σ[i]? = v at z; cases z with | d _ n => exact n b hb
    | b x => generalize σ[i]? = v at z; cases z with | b _ _ n => exact n b hb
    | r x => generalize σ[i]? = v at z; cases z with | r _ _ n => exact n b hb
    | x x => generalize σ[i]? = v at z; cases z with | x n => exact n b hb
theorem EnvOk.notIo {K : PySem.W.Frag} {B : Bd} {H : Hp} {σ : L2.St} {ρ : Rho} {φ : Nat → Addr → Prop} (h : EnvOk K B H σ ρ φ) {i : Nat} (hn : ∀ ob, ρ[i]? ≠ some (.o ob)) : B.io i = none := by
  cases q : B.io i with
  | none => rfl
  | some x => obtain ⟨_, ob, e⟩ := h.io i x q; exact absurd e (hn ob)
/-- a slot that holds no own thing takes a value that stays -/
theorem EnvOk.setD {K : PySem.W.Frag} {B : Bd} {H : Hp} {σ : L2.St} {ρ : Rho} {φ : Nat → Addr → Prop} (h : EnvOk K B H σ ρ φ) {i : Nat} {v : V} {d : PyData} (hn : ∀ ob, ρ[i]? ≠ some (.o ob)) (r : Rp K H v d) :
    EnvOk K B H (σ.set i (some v)) (ρ.set i (.d d)) φ := by
  refine ⟨by simp [h.len], fun j s q => ?_, fun j q => h.out j (by
    rw [List.getElem?_eq_none_iff] at q ⊢
    simpa using q), h.dis, h.frm, h.frz, h.sub, fun j x q => ?_, h.xo.set i _ (fun c z => by cases z)⟩
  · by_cases e : i = j
    · subst e
      have hl : i < ρ.length := by
        have := (List.getElem?_eq_some_iff.mp q).1
        simpa using this
      rw [List.getElem?_set_self hl] at q
      cases q
      rw [List.getElem?_set_self (by rw [h.len]; exact hl)]
      exact .d r (h.notOwn hn)
    · rw [List.getElem?_set_ne e] at q
      rw [List.getElem?_set_ne e]
      exact h.sl j s q
  · have e : i ≠ j := fun e => by subst e; rw [h.notIo hn] at q; cases q
    rw [List.getElem?_set_ne e, List.getElem?_set_ne e]
    exact h.io j x q
/-- .. or a new thing as its own -/
theorem EnvOk.setAs {K : PySem.W.Frag} {B : Bd} {H H' : Hp} {σ : L2.St} {ρ : Rho} {φ : Nat → Addr → Prop} (h : EnvOk K B H σ ρ φ) {i : Nat} {a : Addr} {ob : Ob} (hn : ∀ ob, ρ[i]? ≠ some (.o ob)) (hi : i < ρ.length)
    (e : Same H H') (n : H a = none) (ro : OwnRep K H' (fun b => b = a) a ob) :
    EnvOk K B H' (σ.set i (some (.ref a))) (ρ.set i (.o ob)) (fun j b => (j = i ∧ b = a) ∨ φ j b) := by
  have h' := h.same e
  have nφ : ∀ j, ¬ φ j a := fun j z => by obtain ⟨o, q, _⟩ := h.there z; rw [n] at q; cases q
  refine ⟨by simp [h.len], fun j s q => ?_, fun j q b hb => ?_, fun j k b hj hk => ?_, h'.frm, h'.frz, fun j b hb => ?_, fun j x q => ?_, h.xo.set i _ (fun c z => by cases z)⟩
  · by_cases ej : i = j
    · subst ej
      rw [List.getElem?_set_self hi] at q
      cases q
      rw [List.getElem?_set_self (by rw [h.len]; exact hi)]
      have z : (fun b => (i = i ∧ b = a) ∨ φ i b) = fun b => b = a := by
        funext b
        apply propext
        exact ⟨fun z => z.elim (fun z => z.2) fun z => absurd z (h.notOwn hn b), fun z => .inl ⟨rfl, z⟩⟩
      rw [z]
      exact .o ro
    · rw [List.getElem?_set_ne ej] at q
      rw [List.getElem?_set_ne ej]
      have zj : (fun b => (j = i ∧ b = a) ∨ φ j b) = φ j := by
        funext b
        exact propext ⟨fun z => z.elim (fun z => absurd z.1.symm ej) id, .inr⟩
      rw [zj]
      have z := h.sl j s q
      generalize σ[j]? = v at z
      cases z with
      | nil z => exact .nil z
      | d r z => exact .d (r.mono (firm e)) z
      | b q' r z =>
        refine .b (q'.imp (fun ⟨rd, na⟩ => ⟨rd.imp (fun y => e _ _ y) fun ⟨o, y⟩ => ⟨o, e _ _ y⟩, fun ⟨k, hk⟩ => hk.elim (fun z => ?_) fun z => na ⟨k, z⟩⟩) id) (r.mono (firm e)) z
        obtain ⟨_, ea⟩ := z
        rcases rd with y | ⟨o, y⟩ <;> (rw [ea, n] at y; cases y)
      | o r => exact .o (r.mono (firm e) fun b o _ => e b o)
      | r r nr z =>
        refine .r (r.mono (firm e) fun b o _ => e b o) (fun b hb ⟨k, hk⟩ => hk.elim (fun z => ?_) fun z => nr b hb ⟨k, z⟩) z
        obtain ⟨o, q, _⟩ := r.soft b hb
        rw [z.2, n] at q
        cases q
      | x z => exact .x z
  · rcases hb with ⟨e1, _⟩ | hb
    · subst e1
      rw [List.getElem?_eq_none_iff] at q
      simp at q
      omega
    · exact h.out j (by rw [List.getElem?_eq_none_iff] at q ⊢; simpa using q) b hb
  · rcases hj with ⟨e1, e2⟩ | hj
    · rcases hk with ⟨e3, _⟩ | hk
      · rw [e1, e3]
      · subst e2; exact absurd hk (nφ k)
    · rcases hk with ⟨_, e2⟩ | hk
      · subst e2; exact absurd hj (nφ j)
      · exact h.dis j k b hj hk
  · rcases hb with ⟨_, e2⟩ | hb
    · subst e2; exact .inr (h.new0 n).1
    · exact h.sub j b hb
  · have ej : i ≠ j := fun ej => by subst ej; rw [h.notIo hn] at q; cases q
    rw [List.getElem?_set_ne ej, List.getElem?_set_ne ej]
    exact h.io j x q
/-- .. a new list -/
theorem EnvOk.setNew {K : PySem.W.Frag} {B : Bd} {H H' : Hp} {σ : L2.St} {ρ : Rho} {φ : Nat → Addr → Prop} (h : EnvOk K B H σ ρ φ) {i : Nat} {a : Addr} {xs : List V} {ds : List PyData} (hn : ∀ ob, ρ[i]? ≠ some (.o ob)) (hi : i < ρ.length)
    (e : Same H H') (n : H a = none) (ha : H' a = some (.lst xs)) (r : Rps K H' xs ds) :
    EnvOk K B H' (σ.set i (some (.ref a))) (ρ.set i (.o (.lst ds))) (fun j b => (j = i ∧ b = a) ∨ φ j b) := h.setAs hn hi e n (.lst ha r)
end PL

namespace PL
open PySem PySem.Spec PyProof.Rows L2
/-! ### freezing a list -/
theorem Inv.freeze {X : Cx} {pins : List (Addr × Obj)} {σ : L2.St} {H : Hp} {s : Shared} {a : Addr} {xs : List V} (I : Inv X pins σ H s) (e : H a = some (.lst xs)) :
    ∃ o, Inv X pins σ (upd H a (.frz o (.lst xs))) s := by
  obtain ⟨_, its, n, rv, ho⟩ := I.hok a _ e
  have nn : ∀ {b : Addr}, H b = none → b ≠ a := fun {b} q z => by rw [z, e] at q; cases q
  have ok : HOk X.prog X.w (upd H a (.frz { cls := .type "list", data := .seq its.toArray n } (.lst xs))) s.heap := fun b u q => by
    by_cases hb : b = a
    · subst hb
      rw [upd_same] at q
      cases q
      exact ⟨ho, (I.hok b _ e).stay (fun _ _ _ q => q) (fun c q => by rw [upd_ne (ne_of q e (by intro z; cases z))]; exact q) fun c ys q => by rw [upd_ne (ne_of q e (by intro z; cases z))]; exact q⟩
    · rw [upd_ne hb] at q
      exact (I.hok b u q).stay (fun _ _ _ q => q) (fun c q => by rw [upd_ne (ne_of q e (by intro z; cases z))]; exact q) fun c ys q => by rw [upd_ne (ne_of q e (by intro z; cases z))]; exact q
  refine ⟨_, I.ok, I.os, I.bare, ⟨I.base.keep, I.base.slot, fun b o q n hx => ?_, I.base.there, fun b ys q => ?_, fun b o u q => ?_, fun b ps q => ?_⟩, I.loc, I.cell, ?_, fun x c q => ?_, fun p hp => ?_, ok, I.len⟩
  · have z := I.base.free b o q n hx
    rw [upd_ne (nn z)]; exact z
  · have z := I.base.tups b ys q
    rw [upd_ne (ne_of z e (by intro z; cases z))]; exact z
  · have z := I.base.frzs b o u q
    rw [upd_ne (ne_of z e (by intro z; cases z))]; exact z
  · obtain ⟨m, z⟩ := I.base.tbls b ps q
    exact ⟨m, by rw [upd_ne (ne_of z e (by intro z; cases z))]; exact z⟩
  · rw [upd_ne (nn I.free)]; exact I.free
  · rw [upd_ne (nn (I.freeC x c q))]; exact I.freeC x c q
  · obtain ⟨q1, q2, q3⟩ := I.pin p hp
    exact ⟨q1, by rw [upd_ne (nn q2)]; exact q2, q3⟩
/-- the value, if it is a list that may turn, is frozen -/
def tFrz (t : TE) : TE := fun σ H Q => t σ H fun v H1 => Q v H1 ∨ ∃ a xs, v = .ref a ∧ H1 a = some (.lst xs) ∧ ∀ o, Q v (upd H1 a (.frz o (.lst xs)))
theorem pe_frz {X : Cx} {e : Expr} {t : TE} (h : PE X e t) : PE X e (tFrz t) := ⟨fun pins s σ H Q I hw => thn (h.run pins s σ H _ I hw) fun u s1 ⟨v, H1, I1, r1, q⟩ => by
  rcases q with q | ⟨a, xs, ev, e1, q⟩
  · exact ⟨v, H1, I1, r1, q⟩
  · obtain ⟨o, I2⟩ := Inv.freeze I1 e1
    exact ⟨v, _, I2, r1, q o⟩⟩
theorem _root_.L2.PE.weak {X : Cx} {e : Expr} {t t' : TE} (h : PE X e t) (w : ∀ σ H Q, t' σ H Q → t σ H Q) : PE X e t' := ⟨fun pins s σ H Q I hw => h.run pins s σ H Q I (w σ H Q hw)⟩
theorem _root_.L2.PT.weak {X : Cx} {e : Expr} {t t' : TT} (h : PT X e t) (w : ∀ σ H Q, t' σ H Q → t σ H Q) : PT X e t' := ⟨fun pins s σ H Q I hw => h.run pins s σ H Q I (w σ H Q hw)⟩
theorem _root_.L2.PW.weak {X : Cx} {e : Expr} {t t' : TT} (h : PW X e t) (w : ∀ σ H Q, t' σ H Q → t σ H Q) : PW X e t' := ⟨fun wh pins s σ H Q I hw => h.run wh pins s σ H Q I (w σ H Q hw)⟩
theorem _root_.L2.PA.weak {X : Cx} {e : List Expr} {t t' : TA} (h : PA X e t) (w : ∀ σ H Q, t' σ H Q → t σ H Q) : PA X e t' := ⟨fun p pins s σ H Q I hw => h.run p pins s σ H Q I (w σ H Q hw)⟩
theorem _root_.L2.PS.weak {X : Cx} {e : Stmt} {t t' : TS} (h : PS X e t) (w : ∀ D σ H, t' D σ H → t D σ H) : PS X e t' := ⟨fun pins s σ H D I hw => h.run pins s σ H D I (w D σ H hw)⟩
theorem _root_.L2.PSs.weak {X : Cx} {e : List Stmt} {t t' : TS} (h : PSs X e t) (w : ∀ D σ H, t' D σ H → t D σ H) : PSs X e t' := ⟨fun pins s σ H D I hw => h.run pins s σ H D I (w D σ H hw)⟩
theorem _root_.L2.PTs.weak {X : Cx} {e : List Expr} {t t' : TT} (h : PTs X e t) (w : ∀ σ H Q, t' σ H Q → t σ H Q) : PTs X e t' := ⟨fun pins s σ H Q I hw => h.run pins s σ H Q I (w σ H Q hw)⟩

/-! ### mirrors and their readings -/
abbrev ME := Rho → Option PyData
abbrev MT := Rho → Option Bool
abbrev MA := Rho → Option (List PyData)
/-- an expression's mirror -/
def tE (K : PySem.W.Frag) (xo : XO) (k : Kd) (m : ME) : TE := fun σ H Q => ∃ ρ d, RdOk K xo H σ ρ ∧ m ρ = some d ∧ ∀ v H', Same H H' → RK K k H H' v d → Q v H'
abbrev PEm (X : Cx) (xo : XO) (k : Kd) (e : Expr) (m : ME) : Prop := PE X e (tE X.K xo k m)
def tT (K : PySem.W.Frag) (xo : XO) (m : MT) : TT := fun σ H Q => ∃ ρ b, RdOk K xo H σ ρ ∧ m ρ = some b ∧ ∀ H', Same H H' → Q b H'
abbrev PTm (X : Cx) (xo : XO) (e : Expr) (m : MT) : Prop := PT X e (tT X.K xo m)
abbrev PWm (X : Cx) (xo : XO) (e : Expr) (m : MT) : Prop := PW X e (tT X.K xo m)
/-- arguments: each stays, or may be read -/
inductive RAs (K : PySem.W.Frag) (H : Hp) : List Bool → List V → List PyData → Prop
  | nil : RAs K H [] [] []
  | per {v : V} {d : PyData} {ks vs ds} : Rp K H v d → RAs K H ks vs ds → RAs K H (true :: ks) (v :: vs) (d :: ds)
  | any {v : V} {d : PyData} {ks vs ds} : RpA K H v d → RAs K H ks vs ds → RAs K H (false :: ks) (v :: vs) (d :: ds)
theorem RAs.mono {K : PySem.W.Frag} {H H' : Hp} (s : Same H H') {ks vs ds} (h : RAs K H ks vs ds) : RAs K H' ks vs ds := by
  induction h with
  | nil => exact .nil
  | per r _ ih => exact .per (r.mono (firm s)) ih
  | any r _ ih => exact .any (r.mono s) ih
def tAm (K : PySem.W.Frag) (xo : XO) (ks : List Bool) (m : MA) : TA := fun σ H Q => ∃ ρ ds, RdOk K xo H σ ρ ∧ m ρ = some ds ∧ ∀ vs H', Same H H' → RAs K H' ks vs ds → Q vs H'
abbrev PAm (X : Cx) (xo : XO) (ks : List Bool) (es : List Expr) (m : MA) : Prop := PA X es (tAm X.K xo ks m)
section
variable {X : Cx} {xo : XO} {e a b c : Expr} {es : List Expr} {k k1 k2 : Kd} {m ma mb : ME} {mt mu : MT} {ms : MA} {ks : List Bool} {pos : Pos}
theorem pm_any (h : PEm X xo k e m) : PEm X xo .any e m := h.weak fun σ H Q ⟨ρ, d, R, q, z⟩ => ⟨ρ, d, R, q, fun v H' s r => z v H' s r.toAny⟩
theorem pm_nf (h : PEm X xo .new e m) : PEm X xo .fre e m := h.weak fun σ H Q ⟨ρ, d, R, q, z⟩ => ⟨ρ, d, R, q, fun v H' s r => z v H' s (.inr r)⟩
theorem pm_fre (h : PEm X xo .per e m) : PEm X xo .fre e m := h.weak fun σ H Q ⟨ρ, d, R, q, z⟩ => ⟨ρ, d, R, q, fun v H' s r => z v H' s (.inl r)⟩
/-- what came is made to stay -/
theorem pm_per (h : PEm X xo .fre e m) : PEm X xo .per e m := (pe_frz h).weak fun σ H Q ⟨ρ, d, R, q, z⟩ => ⟨ρ, d, R, q, fun v H' s r => by
  rcases r with r | ⟨a, xs, ds, rfl, rfl, n, e1, r⟩
  · exact .inl (z v H' s r)
  · refine .inr ⟨a, xs, rfl, e1, fun o => z _ _ (fun b u q => ?_) (.lst upd_same (r.mono ⟨fun b ys q => ?_, fun b o u q => ?_⟩))⟩
    · rw [upd_ne (ne_of_none q n)]; exact s b u q
    · rw [upd_ne (ne_of q e1 (by intro z; cases z))]; exact q
    · rw [upd_ne (ne_of q e1 (by intro z; cases z))]; exact q⟩
/-! names and constants -/
def mV (i : Nat) : ME := fun ρ => match ρ[i]? with
  | some (.d d) => some d
  | _ => none
def mVA (i : Nat) : ME := fun ρ => match ρ[i]? with
  | some (.d d) => some d
  | some (.b ds) => some (.list ds)
  | some (.o (.lst ds)) => some (.list ds)
  | _ => none
theorem pm_v (i : Nat) {x : Str} (hN : X.N[i]? = some x := by rfl) (hv : Vis X.env.scope x := by first | exact Or.inl rfl | exact Or.inr (Or.inl rfl) | exact Or.inr (Or.inr rfl)) (hd : (x == ("__debug__" : Str)) = false := by decide)
    (hcd : (x == ("__classdict__" : Str)) = false := by decide) : PEm X xo .per (.Name x pos) (mV i) := (pe_var (i := i) hN hv hd hcd).weak fun σ H Q ⟨ρ, d, R, q, z⟩ => by
  unfold mV at q
  cases e : ρ[i]? with
  | none => rw [e] at q; cases q
  | some s =>
    rw [e] at q
    have r := R.rd i s e
    cases s with
    | d x =>
      cases q
      generalize hs : σ[i]? = v at r
      cases r with | d r => exact ⟨_, hs, z _ _ (Same.refl H) r⟩
    | _ => cases q
theorem pm_va (i : Nat) {x : Str} (hN : X.N[i]? = some x := by rfl) (hv : Vis X.env.scope x := by first | exact Or.inl rfl | exact Or.inr (Or.inl rfl) | exact Or.inr (Or.inr rfl)) (hd : (x == ("__debug__" : Str)) = false := by decide)
    (hcd : (x == ("__classdict__" : Str)) = false := by decide) : PEm X xo .any (.Name x pos) (mVA i) := (pe_var (i := i) hN hv hd hcd).weak fun σ H Q ⟨ρ, d, R, q, z⟩ => by
  unfold mVA at q
  cases e : ρ[i]? with
  | none => rw [e] at q; cases q
  | some s =>
    rw [e] at q
    have r := R.rd i s e
    generalize hs : σ[i]? = v at r
    cases r with
    | nil => cases q
    | d r => cases q; exact ⟨_, hs, z _ _ (Same.refl H) (.per r)⟩
    | b e1 r => cases q; exact ⟨_, hs, z _ _ (Same.refl H) (.seq e1 r)⟩
    | r r => cases q
    | x => cases q
    | o r => cases r with
      | lst e1 r => cases q; exact ⟨_, hs, z _ _ (Same.refl H) (.seq (.of e1) r)⟩
      | ins _ _ _ => cases q
      | dct _ => cases q
      | map _ _ => cases q
      | two _ _ => cases q
      | pr _ _ => cases q
      | shl => cases q
def mC (d : PyData) : ME := fun _ => some d
theorem tE_c {v : V} {d : PyData} {σ : L2.St} {H : Hp} {Q : VK} {K : PySem.W.Frag} (r : ∀ H, Rp K H v d) (h : tE K xo .per (mC d) σ H Q) : tC v σ H Q := by
  obtain ⟨ρ, d', R, q, z⟩ := h
  cases q
  exact z _ _ (Same.refl H) (r H)
theorem pm_int {i : Int} {j : Nat} : PEm X xo .per (.Constant (.int i) j pos) (mC (.int i)) := pe_int.weak fun _ _ _ h => tE_c (fun _ => .int i) h
theorem pm_bl {i : Bool} {j : Nat} : PEm X xo .per (.Constant (.bool i) j pos) (mC (.bool i)) := pe_bl.weak fun _ _ _ h => tE_c (fun _ => .bl i) h
theorem pm_str {i : Str} {j : Nat} : PEm X xo .per (.Constant (.str i) j pos) (mC (.str i)) := pe_str.weak fun _ _ _ h => tE_c (fun _ => .str i) h
theorem pm_non {j : Nat} : PEm X xo .per (.Constant .none j pos) (mC .none) := pe_non.weak fun _ _ _ h => tE_c (fun _ => .non) h
/-! two expressions by a rule of their values -/
def mBin (f : PyData → PyData → Option PyData) (ma mb : ME) : ME := fun ρ => (ma ρ).bind fun x => (mb ρ).bind fun y => f x y
def mUn (f : PyData → Option PyData) (ma : ME) : ME := fun ρ => (ma ρ).bind f
/-- the rule r of two values does f -/
def R2m (K : PySem.W.Frag) (k : Kd) (r : R2) (f : PyData → PyData → Option PyData) : Prop := ∀ v u H Q d1 d2 d, RpA K H v d1 → RpA K H u d2 → f d1 d2 = some d → (∀ v' H', Same H H' → RK K k H H' v' d → Q v' H') → r v u H Q
theorem tE_bin {r : R2} {f : PyData → PyData → Option PyData} (hr : R2m X.K k r f) {σ : L2.St} {H : Hp} {Q : VK} (h : tE X.K xo k (mBin f ma mb) σ H Q) : tOp r (tE X.K xo k1 ma) (tE X.K xo k2 mb) σ H Q := by
  obtain ⟨ρ, d, R, q, z⟩ := h
  unfold mBin at q
  obtain ⟨x, q1, q⟩ := Option.bind_eq_some_iff.mp q
  obtain ⟨y, q2, q⟩ := Option.bind_eq_some_iff.mp q
  refine ⟨ρ, x, R, q1, fun v H1 s1 r1 => ⟨ρ, y, R.mono s1, q2, fun u H2 s2 r2 => ?_⟩⟩
  exact hr v u H2 Q x y d (r1.toAny.mono s2) r2.toAny q fun v' H' s r' => z v' H' ((s1.trans s2).trans s) (r'.back (s1.trans s2))
theorem pm_op {op : Operator} {r : R2} {f : PyData → PyData → Option PyData} (ho : OpR X (binaryOp op) r) (hr : R2m X.K k r f) (ha : PEm X xo k1 a ma) (hb : PEm X xo k2 b mb) : PEm X xo k (.BinOp a op b pos) (mBin f ma mb) :=
  (pe_op ho ha hb).weak fun _ _ _ h => tE_bin hr h
theorem pm_cmp {op : CmpOp} {r : R2} {f : PyData → PyData → Option PyData} (ho : OpR X (compareOp op) r) (hr : R2m X.K .per r f) (ha : PEm X xo k1 a ma) (hb : PEm X xo k2 b mb) (hm : behindInMarks op b = false) : PEm X xo .per (.Compare a [op] [b] pos) (mBin f ma mb) :=
  (pe_cmpR ho ha hb hm).weak fun _ _ _ h => tE_bin hr h
def mTest (m : ME) : MT := fun ρ => (m ρ).bind fun d => match d with
  | .bool b => some b
  | _ => none
theorem tT_of {t : TE} {σ : L2.St} {H : Hp} {Q : Bool → Hp → Prop} (w : ∀ σ H Q, tE X.K xo .per m σ H Q → t σ H Q) (h : tT X.K xo (mTest m) σ H Q) : tTest t σ H Q := by
  obtain ⟨ρ, b, R, q, z⟩ := h
  obtain ⟨d, q1, q⟩ := Option.bind_eq_some_iff.mp q
  refine w σ H _ ⟨ρ, d, R, q1, fun v H' s r => ?_⟩
  cases d with
  | bool c =>
    cases q
    cases r
    exact ⟨_, rfl, z H' s⟩
  | _ => cases q
theorem pq_cmp {op : CmpOp} {r : R2} {f : PyData → PyData → Option PyData} (ho : OpR X (compareOp op) r) (hr : R2m X.K .per r f) (ha : PEm X xo k1 a ma) (hb : PEm X xo k2 b mb) (hm : behindInMarks op b = false) : PTm X xo (.Compare a [op] [b] pos) (mTest (mBin f ma mb)) :=
  (pt_cmpR ho ha hb hm).weak fun _ _ _ h => tT_of (fun _ _ _ h => tE_bin hr h) h
theorem pq_val (h : PEm X xo k e m) (he : ∀ whole, isTrue e X.env whole = (do let v ← whole; standAt e.pos; holding [v] (truthy v)) := by intro _; rfl) : PTm X xo e (mTest m) :=
  (pt_val h he).weak fun σ H Q ⟨ρ, b, R, q, z⟩ => by
    obtain ⟨d, q1, q⟩ := Option.bind_eq_some_iff.mp q
    refine ⟨ρ, d, R, q1, fun v H' s r => ?_⟩
    have r := r.toAny
    cases d with
    | bool c => cases q; exact ⟨_, r.bool, z H' s⟩
    | _ => cases q
/-! and, or, not -/
def mAndT (a b : MT) : MT := fun ρ => (a ρ).bind fun x => match x with
  | true => b ρ
  | false => some false
def mOrT (a b : MT) : MT := fun ρ => (a ρ).bind fun x => match x with
  | true => some true
  | false => b ρ
def mNotT (a : MT) : MT := fun ρ => (a ρ).bind fun x => some (!x)
theorem pq_and1 (ha : PTm X xo a mt) : PWm X xo (.BoolOp .And [a] pos) mt := pw_and1 ha
theorem pq_or1 (ha : PTm X xo a mt) : PWm X xo (.BoolOp .Or [a] pos) mt := pw_or1 ha
theorem pq_and (ha : PTm X xo a mt) (hb : PWm X xo (.BoolOp .And (b :: es) pos) mu) : PWm X xo (.BoolOp .And (a :: b :: es) pos) (mAndT mt mu) := (pw_and ha hb).weak fun σ H Q ⟨ρ, d, R, q, z⟩ => by
  obtain ⟨x, q1, q⟩ := Option.bind_eq_some_iff.mp q
  refine ⟨ρ, x, R, q1, fun H1 s1 => ?_⟩
  cases x with
  | true => exact ⟨ρ, d, R.mono s1, q, fun H2 s2 => z H2 (s1.trans s2)⟩
  | false => cases q; exact z H1 s1
theorem pq_or (ha : PTm X xo a mt) (hb : PWm X xo (.BoolOp .Or (b :: es) pos) mu) : PWm X xo (.BoolOp .Or (a :: b :: es) pos) (mOrT mt mu) := (pw_or ha hb).weak fun σ H Q ⟨ρ, d, R, q, z⟩ => by
  obtain ⟨x, q1, q⟩ := Option.bind_eq_some_iff.mp q
  refine ⟨ρ, x, R, q1, fun H1 s1 => ?_⟩
  cases x with
  | true => cases q; exact z H1 s1
  | false => exact ⟨ρ, d, R.mono s1, q, fun H2 s2 => z H2 (s1.trans s2)⟩
theorem pq_not (ha : PTm X xo a mt) : PTm X xo (.UnaryOp .Not a pos) (mNotT mt) := (pt_not ha).weak fun σ H Q ⟨ρ, d, R, q, z⟩ => by
  obtain ⟨x, q1, q⟩ := Option.bind_eq_some_iff.mp q
  cases q
  exact ⟨ρ, x, R, q1, fun H1 s1 => z H1 s1⟩
def bl? : PyData → Option Bool
  | .bool b => some b
  | _ => none
def mAnd (a b : ME) : ME := fun ρ => ((a ρ).bind bl?).bind fun x => match x with
  | true => b ρ
  | false => some (.bool false)
def mOr (a b : ME) : ME := fun ρ => ((a ρ).bind bl?).bind fun x => match x with
  | true => some (.bool true)
  | false => b ρ
def mNot (a : ME) : ME := fun ρ => ((a ρ).bind bl?).bind fun x => some (.bool (!x))
theorem bl_some {d : PyData} {x : Bool} (h : bl? d = some x) : d = .bool x := by
  cases d with
  | bool b => cases h; rfl
  | _ => cases h
theorem pm_one {op : BoolOp} (ha : PEm X xo k a m) : PEm X xo k (.BoolOp op [a] pos) m := pe_one ha
theorem pm_and (ha : PEm X xo k1 a ma) (hb : PEm X xo k (.BoolOp .And (b :: es) pos) mb) : PEm X xo .any (.BoolOp .And (a :: b :: es) pos) (mAnd ma mb) := (pe_and ha hb).weak fun σ H Q ⟨ρ, d, R, q, z⟩ => by
  obtain ⟨x, q1, q⟩ := Option.bind_eq_some_iff.mp q
  obtain ⟨y, q0, q1⟩ := Option.bind_eq_some_iff.mp q1
  cases bl_some q1
  refine ⟨ρ, _, R, q0, fun v H1 s1 r1 => ⟨x, r1.toAny.bool, ?_⟩⟩
  cases x with
  | true => exact ⟨ρ, d, R.mono s1, q, fun v H2 s2 r2 => z v H2 (s1.trans s2) r2.toAny⟩
  | false => cases q; exact z _ H1 s1 (.per (.bl _))
theorem pm_or (ha : PEm X xo k1 a ma) (hb : PEm X xo k (.BoolOp .Or (b :: es) pos) mb) : PEm X xo .any (.BoolOp .Or (a :: b :: es) pos) (mOr ma mb) := (pe_or ha hb).weak fun σ H Q ⟨ρ, d, R, q, z⟩ => by
  obtain ⟨x, q1, q⟩ := Option.bind_eq_some_iff.mp q
  obtain ⟨y, q0, q1⟩ := Option.bind_eq_some_iff.mp q1
  cases bl_some q1
  refine ⟨ρ, _, R, q0, fun v H1 s1 r1 => ⟨x, r1.toAny.bool, ?_⟩⟩
  cases x with
  | true => cases q; exact z _ H1 s1 (.per (.bl _))
  | false => exact ⟨ρ, d, R.mono s1, q, fun v H2 s2 r2 => z v H2 (s1.trans s2) r2.toAny⟩
theorem pm_not (ha : PEm X xo k1 a ma) : PEm X xo .per (.UnaryOp .Not a pos) (mNot ma) := (pe_not ha).weak fun σ H Q ⟨ρ, d, R, q, z⟩ => by
  obtain ⟨x, q1, q⟩ := Option.bind_eq_some_iff.mp q
  obtain ⟨y, q0, q1⟩ := Option.bind_eq_some_iff.mp q1
  cases bl_some q1
  cases q
  exact ⟨ρ, _, R, q0, fun v H1 s1 r1 => ⟨x, r1.toAny.bool, z _ H1 s1 (.bl _)⟩⟩
/-- a bool's kind: it stays -/
def mBl (m : ME) : ME := fun ρ => ((m ρ).bind bl?).bind fun x => some (.bool x)
theorem pm_bool (h : PEm X xo k e m) : PEm X xo .per e (mBl m) := h.weak fun σ H Q ⟨ρ, d, R, q, z⟩ => by
  obtain ⟨x, q1, q⟩ := Option.bind_eq_some_iff.mp q
  obtain ⟨y, q0, q1⟩ := Option.bind_eq_some_iff.mp q1
  cases bl_some q1
  cases q
  exact ⟨ρ, _, R, q0, fun v H1 s1 r1 => z v H1 s1 (by rw [r1.toAny.bool]; exact .bl _)⟩
def mIf (c : MT) (a b : ME) : ME := fun ρ => (c ρ).bind fun x => match x with
  | true => a ρ
  | false => b ρ
theorem pm_if (hc : PTm X xo c mt) (ha : PEm X xo k a ma) (hb : PEm X xo k b mb) : PEm X xo k (.IfExp c a b pos) (mIf mt ma mb) := (pe_ifExp hc ha hb).weak fun σ H Q ⟨ρ, d, R, q, z⟩ => by
  obtain ⟨x, q1, q⟩ := Option.bind_eq_some_iff.mp q
  refine ⟨ρ, x, R, q1, fun H1 s1 => ?_⟩
  cases x with
  | true => exact ⟨ρ, d, R.mono s1, q, fun v H2 s2 r2 => z v H2 (s1.trans s2) (r2.back s1)⟩
  | false => exact ⟨ρ, d, R.mono s1, q, fun v H2 s2 r2 => z v H2 (s1.trans s2) (r2.back s1)⟩
/-! argument lists, displays -/
def mNil : MA := fun _ => some []
def mCons (m : ME) (ms : MA) : MA := fun ρ => (m ρ).bind fun d => (ms ρ).bind fun ds => some (d :: ds)
theorem pam_nil : PAm X xo [] [] mNil := pa_nil.weak fun σ H Q ⟨ρ, d, R, q, z⟩ => by
  cases q
  exact z _ _ (Same.refl H) .nil
theorem pam_per (ha : PEm X xo .per e m) (hr : PAm X xo ks es ms) (hs : starEach (e :: es) X.env = (false, eval e X.env) :: starEach es X.env := by rfl) : PAm X xo (true :: ks) (e :: es) (mCons m ms) := (pa_cons ha hr hs).weak fun σ H Q ⟨ρ, d, R, q, z⟩ => by
  obtain ⟨x, q1, q⟩ := Option.bind_eq_some_iff.mp q
  obtain ⟨y, q2, q⟩ := Option.bind_eq_some_iff.mp q
  cases q
  exact ⟨ρ, x, R, q1, fun v H1 s1 r1 => ⟨ρ, y, R.mono s1, q2, fun vs H2 s2 r2 => z _ _ (s1.trans s2) (.per (Rp.mono (firm s2) r1) r2)⟩⟩
theorem pam_any (ha : PEm X xo k e m) (hr : PAm X xo ks es ms) (hs : starEach (e :: es) X.env = (false, eval e X.env) :: starEach es X.env := by rfl) : PAm X xo (false :: ks) (e :: es) (mCons m ms) := (pa_cons ha hr hs).weak fun σ H Q ⟨ρ, d, R, q, z⟩ => by
  obtain ⟨x, q1, q⟩ := Option.bind_eq_some_iff.mp q
  obtain ⟨y, q2, q⟩ := Option.bind_eq_some_iff.mp q
  cases q
  exact ⟨ρ, x, R, q1, fun v H1 s1 r1 => ⟨ρ, y, R.mono s1, q2, fun vs H2 s2 r2 => z _ _ (s1.trans s2) (.any (r1.toAny.mono s2) r2)⟩⟩
theorem RAs.rps {K : PySem.W.Frag} {H : Hp} : ∀ {ks vs ds}, RAs K H ks vs ds → ks.all id = true → Rps K H vs ds
  | _, _, _, .nil, _ => .nil
  | _, _, _, .per r t, h => .cons r (t.rps h)
  | _, _, _, .any _ _, h => by cases h
/-- a display's length is bounded -/
def mTup (ms : MA) : ME := fun ρ => (ms ρ).bind fun ds => if ds.length ≤ 100 then some (.tuple ds) else none
def mLst (ms : MA) : ME := fun ρ => (ms ρ).bind fun ds => if ds.length ≤ 100 then some (.list ds) else none
theorem line100 {n : Nat} (h : n ≤ 100) : n ≤ sizeLine := Nat.le_trans h (by decide)
theorem same_new {H : Hp} {p : Addr} (h : H p = none) (o : HO) : Same H (upd H p o) := fun b u q => by rw [upd_ne (ne_of_none q h)]; exact q
theorem pm_tup {j : Nat} (h : PAm X xo ks es ms) (hk : ks.all id = true := by rfl) : PEm X xo .per (.Tuple es j pos) (mTup ms) := (pe_tup h).weak fun σ H Q ⟨ρ, d, R, q, z⟩ => by
  obtain ⟨ds, q1, q⟩ := Option.bind_eq_some_iff.mp q
  refine ⟨ρ, ds, R, q1, fun vs H1 s1 r1 => ?_⟩
  have r := r1.rps hk
  split at q
  · rename_i hl
    cases q
    refine ⟨line100 (by rw [r.length]; exact hl), fun p hp => z _ _ (s1.trans (same_new hp _)) (.tup (.of upd_same) (r.mono (firm (same_new hp _))))⟩
  · cases q
theorem pm_lst (h : PAm X xo ks es ms) (hk : ks.all id = true := by rfl) : PEm X xo .new (.List es pos) (mLst ms) := (pe_lst h).weak fun σ H Q ⟨ρ, d, R, q, z⟩ => by
  obtain ⟨ds, q1, q⟩ := Option.bind_eq_some_iff.mp q
  refine ⟨ρ, ds, R, q1, fun vs H1 s1 r1 => ?_⟩
  have r := r1.rps hk
  split at q
  · rename_i hl
    cases q
    refine ⟨line100 (by rw [r.length]; exact hl), fun p hp => z _ _ (s1.trans (same_new hp _)) ⟨p, vs, ds, rfl, rfl, s1.free hp, upd_same, r.mono (firm (same_new hp _))⟩⟩
  · cases q
end
end PL

namespace PL
open PySem PySem.Spec PyProof.Rows L2
/-! ### operators by value -/
section
variable {X : Cx} {xo : XO} {k : Kd}
theorem OpR.orW {f : Value → Value → Sem Value} {r r' : R2} (h : OpR X f r) (h' : OpR X f r') : OpR X f (fun x y H Q => r x y H Q ∨ r' x y H Q) := OpR.or h h'
/-- list + list, of any lists that may be read -/
def rCatA (K : PySem.W.Frag) : R2 := fun x y H Q => ∃ l b xs zs, x = .ref l ∧ y = .ref b ∧ SqL K H l xs ∧ SqL K H b zs ∧ xs.length + zs.length ≤ sizeLine ∧ ∀ p, H p = none → Q (.ref p) (upd H p (.lst (xs ++ zs)))
theorem plain_get {h : Heap} {a : Addr} {its : Array Value} (p : PlainL h a its) : ∃ n sl, h.get? a = some { cls := .type "list", data := .seq its n, slots := sl } := by
  obtain ⟨o, n, e, c, d, q⟩ := p
  obtain ⟨c', d', dt', sl'⟩ := o
  cases c
  cases d
  cases q
  exact ⟨n, sl', e⟩
theorem op_catA : OpR X (binaryOp .Add) (rCatA X.K) := by
  intro pins s σ H x y v u Q I rx ry h
  obtain ⟨l, b, xs, zs, rfl, rfl, hH, hB, hz, q⟩ := h
  cases rx
  cases ry
  obtain ⟨its, r, p1, _⟩ := I.list hH
  obtain ⟨its2, r2, p2, _⟩ := I.list hB
  obtain ⟨n1, sl1, e1⟩ := plain_get p1
  obtain ⟨n2, sl2, e2⟩ := plain_get p2
  have hz' : its.toArray.size + its2.toArray.size ≤ sizeLine := by rw [List.size_toArray, List.size_toArray, ← r.length, ← r2.length]; exact hz
  refine concat_meets ⟨_, e1, rfl⟩ ⟨_, e2, rfl⟩ noFill_list_add seq_list_add PySem.F.slot_list_add PySem.F.entry_list_add (PySem.F.args_list_add_2 _ _) (list_addW l b its.toArray its2.toArray n1 n2 none none sl1 sl2 hz') ⟨e1, e2, ?_⟩
  have ea : its.toArray ++ its2.toArray = (its ++ its2).toArray := by simp
  rw [ea]
  exact ⟨.ref _, _, I.lnew (t' := s.toks) (r.append r2) (by rw [List.length_append]; exact hz), rfl, q _ I.fresh⟩

/-! ints -/
def int2 (f : Int → Int → Option PyData) : PyData → PyData → Option PyData
  | .int i, .int j => f i j
  | _, _ => none
theorem int2_some {f : Int → Int → Option PyData} {a b d : PyData} (h : int2 f a b = some d) : ∃ i j, a = .int i ∧ b = .int j ∧ f i j = some d := by
  cases a with
  | int i => cases b with
    | int j => exact ⟨i, j, rfl, rfl, h⟩
    | _ => cases h
  | _ => cases h
theorem r2_int {C : Int → Int → Prop} {g : Int → Int → V} {f : Int → Int → Option PyData} (hf : ∀ i j d, f i j = some d → C i j ∧ ∀ K H, Rp K H (g i j) d) : R2m X.K .per (rI C g) (int2 f) := by
  intro v u H Q d1 d2 d r1 r2 q z
  obtain ⟨i, j, rfl, rfl, q⟩ := int2_some q
  obtain ⟨c, r⟩ := hf i j d q
  exact ⟨i, j, r1.int, r2.int, c, z _ _ (Same.refl H) (r _ _)⟩
theorem r2_int0 {g : Int → Int → V} {f : Int → Int → Option PyData} (hf : ∀ i j d, f i j = some d → ∀ K H, Rp K H (g i j) d) : R2m X.K .per (rI0 g) (int2 f) := by
  intro v u H Q d1 d2 d r1 r2 q z
  obtain ⟨i, j, rfl, rfl, q⟩ := int2_some q
  exact ⟨i, j, r1.int, r2.int, z _ _ (Same.refl H) (hf i j d q _ _)⟩
def subM : PyData → PyData → Option PyData := int2 fun i j => some (.int (i - j))
def mulM : PyData → PyData → Option PyData := int2 fun i j => if (-(2 ^ 64) < i ∧ i < 2 ^ 64) ∨ (-(2 ^ 64) < j ∧ j < 2 ^ 64) then some (.int (i * j)) else none
def divM : PyData → PyData → Option PyData := int2 fun i j => if 0 < j ∧ j < 1073741824 then some (.int (i / j)) else none
def modM : PyData → PyData → Option PyData := int2 fun i j => if 0 < j then some (.int (i % j)) else none
def ltM : PyData → PyData → Option PyData := int2 fun i j => some (.bool (decide (i < j)))
def leM : PyData → PyData → Option PyData := int2 fun i j => some (.bool (decide (i ≤ j)))
def gtM : PyData → PyData → Option PyData := int2 fun i j => some (.bool (decide (j < i)))
def geM : PyData → PyData → Option PyData := int2 fun i j => some (.bool (decide (j ≤ i)))
theorem some_if {c : Prop} [Decidable c] {α : Type} {x y : α} (h : (if c then some x else none) = some y) : c ∧ x = y := by
  split at h
  · rename_i hc; exact ⟨hc, Option.some.inj h⟩
  · cases h
theorem r2_sub : R2m X.K .per (rI0 fun i j => .int (i - j)) subM := r2_int0 fun i j d q K H => by cases q; exact .int _
theorem r2_mul : R2m X.K .per (rI CMul fun i j => .int (i * j)) mulM := r2_int fun i j d q => by obtain ⟨c, rfl⟩ := some_if q; exact ⟨c, fun _ _ => .int _⟩
theorem r2_div : R2m X.K .per (rI CDiv fun i j => .int (i / j)) divM := r2_int fun i j d q => by obtain ⟨c, rfl⟩ := some_if q; exact ⟨c, fun _ _ => .int _⟩
theorem r2_mod : R2m X.K .per (rI (fun _ j => 0 < j) fun i j => .int (i % j)) modM := r2_int fun i j d q => by obtain ⟨c, rfl⟩ := some_if q; exact ⟨c, fun _ _ => .int _⟩
theorem r2_lt : R2m X.K .per (rI0 fun i j => .bl (decide (i < j))) ltM := r2_int0 fun i j d q K H => by cases q; exact .bl _
theorem r2_le : R2m X.K .per (rI0 fun i j => .bl (decide (i ≤ j))) leM := r2_int0 fun i j d q K H => by cases q; exact .bl _
theorem r2_gt : R2m X.K .per (rI0 fun i j => .bl (decide (j < i))) gtM := r2_int0 fun i j d q K H => by cases q; exact .bl _
theorem r2_ge : R2m X.K .per (rI0 fun i j => .bl (decide (j ≤ i))) geM := r2_int0 fun i j d q K H => by cases q; exact .bl _
/-! + of ints, texts, lists, tuples -/
def rStr2 : R2 := fun x y H Q => ∃ i j, x = .str i ∧ y = .str j ∧ i.length + j.length ≤ sizeLine ∧ Q (.str (i ++ j)) H
def rAddA (K : PySem.W.Frag) : R2 := fun x y H Q => (rI0 (fun i j => .int (i + j)) x y H Q ∨ rStr2 x y H Q) ∨ (rCatA K x y H Q ∨ rCatT K x y H Q)
theorem op_addA : OpR X (binaryOp .Add) (rAddA X.K) := OpR.or (OpR.or op_add op_add_str) (OpR.or op_catA op_catT)
def addM : PyData → PyData → Option PyData
  | .int i, .int j => some (.int (i + j))
  | .str i, .str j => if i.length + j.length ≤ sizeLine then some (.str (i ++ j)) else none
  | .list xs, .list ys => if xs.length + ys.length ≤ sizeLine then some (.list (xs ++ ys)) else none
  | .tuple xs, .tuple ys => if xs ≠ [] ∧ xs.length + ys.length ≤ sizeLine then some (.tuple (xs ++ ys)) else none
  | _, _ => none
theorem r2_add : R2m X.K .fre (rAddA X.K) addM := by
  intro v u H Q d1 d2 d r1 r2 q z
  cases d1 with
  | int i => cases d2 with
    | int j => cases q; exact .inl (.inl ⟨i, j, r1.int, r2.int, z _ _ (Same.refl H) (.inl (.int _))⟩)
    | _ => cases q
  | str i => cases d2 with
    | str j =>
      obtain ⟨c, rfl⟩ := some_if q
      exact .inl (.inr ⟨i, j, r1.str, r2.str, c, z _ _ (Same.refl H) (.inl (.str _))⟩)
    | _ => cases q
  | list xs => cases d2 with
    | list ys =>
      obtain ⟨c, rfl⟩ := some_if q
      obtain ⟨a, vs, rfl, e1, p1⟩ := r1.list
      obtain ⟨b, ws, rfl, e2, p2⟩ := r2.list
      refine .inr (.inl ⟨a, b, vs, ws, rfl, rfl, e1, e2, by rw [p1.length, p2.length]; exact c, fun p hp => z _ _ (same_new hp _) (.inr ⟨p, _, _, rfl, rfl, hp, upd_same, (p1.append p2).mono (firm (same_new hp _))⟩)⟩)
    | _ => cases q
  | tuple xs => cases d2 with
    | tuple ys =>
      obtain ⟨c, rfl⟩ := some_if q
      obtain ⟨a, vs, rfl, e1, p1⟩ := r1.tuple
      obtain ⟨b, ws, rfl, e2, p2⟩ := r2.tuple
      have l1 := p1.length
      have l2 := p2.length
      refine .inr (.inr ⟨a, b, vs, ws, rfl, rfl, e1, e2, fun w => c.1 ?_, by rw [l1, l2]; exact c.2, fun w => ?_, fun w p hp => z _ _ (same_new hp _) (.inl (.tup (.of upd_same) ((p1.append p2).mono (firm (same_new hp _)))))⟩)
      · subst w; cases xs with
        | nil => rfl
        | cons _ _ => cases l1
      · subst w
        have : ys = [] := by cases ys with
          | nil => rfl
          | cons _ _ => cases l2
        subst this
        rw [List.append_nil] at z
        exact z _ _ (Same.refl H) (.inl (.tup e1 p1))
    | _ => cases q
  | _ => cases q
/-! == of data of any make -/
def okD (d : PyData) : Bool := d.canLay0
/-- one of the two is at most 200 deep -/
def eqM (a b : PyData) : Option PyData := if a.canLay0 = true ∧ b.canLay0 = true ∧ min a.depth b.depth ≤ 200 then some (.bool (PyData.eqv a b)) else none
def neM (a b : PyData) : Option PyData := if a.canLay0 = true ∧ b.canLay0 = true ∧ min a.depth b.depth ≤ 200 then some (.bool (!PyData.eqv a b)) else none
def rEqA (K : PySem.W.Frag) : R2 := fun x y H Q => ∃ d e, Dp K H x d ∧ Dp K H y e ∧ d.canLay0 = true ∧ e.canLay0 = true ∧ min d.depth e.depth ≤ 200 ∧ Q (.bl (PyData.eqv d e)) H
def rNeA (K : PySem.W.Frag) : R2 := fun x y H Q => ∃ d e, Dp K H x d ∧ Dp K H y e ∧ d.canLay0 = true ∧ e.canLay0 = true ∧ min d.depth e.depth ≤ 200 ∧ Q (.bl (!PyData.eqv d e)) H
theorem op_eqA (hu : X.A.units + 200 < cLine) : OpR X (compareOp .Eq) (rEqA X.K) := by
  intro pins s σ H x y v u Q I rx ry h
  obtain ⟨d, e, hd, he, sd, se, dm, q⟩ := h
  obtain ⟨as, r1⟩ := Dp.reads I d x v hd rx
  obtain ⟨bs, r2⟩ := Dp.reads I e y u he ry
  exact SeqAt.compareEq_reads r1 r2 sd se (by omega) ⟨.bl _, H, I, rfl, q⟩
theorem op_neA (hu : X.A.units + 200 < cLine) : OpR X (compareOp .NotEq) (rNeA X.K) := by
  intro pins s σ H x y v u Q I rx ry h
  obtain ⟨d, e, hd, he, sd, se, dm, q⟩ := h
  obtain ⟨as, r1⟩ := Dp.reads I d x v hd rx
  obtain ⟨bs, r2⟩ := Dp.reads I e y u he ry
  exact SeqAt.compareNe_reads r1 r2 sd se (by omega) ⟨.bl _, H, I, rfl, q⟩
theorem r2_eq : R2m X.K .per (rEqA X.K) eqM := by
  intro v u H Q d1 d2 d r1 r2 q z
  obtain ⟨⟨c1, c2, c3⟩, rfl⟩ := some_if q
  exact ⟨d1, d2, r1.dp, r2.dp, c1, c2, c3, z _ _ (Same.refl H) (.bl _)⟩
theorem r2_ne : R2m X.K .per (rNeA X.K) neM := by
  intro v u H Q d1 d2 d r1 r2 q z
  obtain ⟨⟨c1, c2, c3⟩, rfl⟩ := some_if q
  exact ⟨d1, d2, r1.dp, r2.dp, c1, c2, c3, z _ _ (Same.refl H) (.bl _)⟩
theorem hu200 {k : Nat} {A : Around} (hr : Room k A) : A.units + 200 < cLine := by have := hr.un; omega
/-! in: a list or tuple of data; a sign in a text -/
def itemsOf : PyData → Option (List PyData)
  | .list ds => some ds
  | .tuple ds => some ds
  | _ => none
def inM (neg : Bool) (a b : PyData) : Option PyData := match b with
  | .str y => match a with
    | .str x => some (.bool (xor neg (!(Builtin.Str.occurrences y x 0 y.length 1).isEmpty)))
    | _ => none
  | b => (itemsOf b).bind fun ds => if a.canLay0 = true ∧ b.canLay0 = true ∧ a.depth ≤ 190 then some (.bool (xor neg (ds.any fun z => PyData.eqv z a))) else none
def rInA (K : PySem.W.Frag) (neg : Bool) : R2 := fun x y H Q => (∃ d e ds, Dp K H x d ∧ Dp K H y e ∧ itemsOf e = some ds ∧ d.canLay0 = true ∧ e.canLay0 = true ∧ d.depth ≤ 190 ∧ Q (.bl (xor neg (ds.any fun z => PyData.eqv z d))) H) ∨
  ∃ i j, x = .str i ∧ y = .str j ∧ Q (.bl (xor neg (!(Builtin.Str.occurrences j i 0 j.length 1).isEmpty))) H
theorem room_inA {A : Around} {xs : List PyData} {d : PyData} (hd : d.depth ≤ 190) (hu : A.units + 200 < cLine) : A.units + 1 + min (PyData.depthAll xs) d.depth < cLine := by omega
theorem op_inA (hu : X.A.units + 200 < cLine) : OpR X (compareOp .In) (rInA X.K false) := by
  intro pins s σ H x y v u Q I rx ry h
  rcases h with ⟨d, e, ds, hd, he, ei, sd, se, dm, q⟩ | ⟨i, j, rfl, rfl, q⟩
  · obtain ⟨as, r1⟩ := Dp.reads I d x v hd rx
    obtain ⟨bs, r2⟩ := Dp.reads I e y u he ry
    rw [Bool.false_xor] at q
    cases e with
    | list xs => cases ei; exact SeqAt.in_list_reads r2 r1 se sd (room_inA dm hu) ⟨.bl _, H, I, rfl, q⟩
    | tuple xs => cases ei; exact SeqAt.in_tuple_reads r2 r1 se sd (room_inA dm hu) ⟨.bl _, H, I, rfl, q⟩
    | _ => cases ei
  · exact op_in_str pins s σ H _ _ v u Q I rx ry ⟨i, j, rfl, rfl, by rw [Bool.false_xor] at q; exact q⟩
theorem op_notInA (hu : X.A.units + 200 < cLine) : OpR X (compareOp .NotIn) (rInA X.K true) := by
  intro pins s σ H x y v u Q I rx ry h
  rcases h with ⟨d, e, ds, hd, he, ei, sd, se, dm, q⟩ | ⟨i, j, rfl, rfl, q⟩
  · obtain ⟨as, r1⟩ := Dp.reads I d x v hd rx
    obtain ⟨bs, r2⟩ := Dp.reads I e y u he ry
    rw [Bool.true_xor] at q
    cases e with
    | list xs => cases ei; exact SeqAt.notIn_list_reads r2 r1 se sd (room_inA dm hu) ⟨.bl _, H, I, rfl, q⟩
    | tuple xs => cases ei; exact SeqAt.notIn_tuple_reads r2 r1 se sd (room_inA dm hu) ⟨.bl _, H, I, rfl, q⟩
    | _ => cases ei
  · exact op_notin_str pins s σ H _ _ v u Q I rx ry ⟨i, j, rfl, rfl, by rw [Bool.true_xor] at q; exact q⟩
theorem r2_in {neg : Bool} : R2m X.K .per (rInA X.K neg) (inM neg) := by
  intro v u H Q d1 d2 d r1 r2 q z
  unfold inM at q
  split at q
  · split at q
    · cases q; exact .inr ⟨_, _, r1.str, r2.str, z _ _ (Same.refl H) (.bl _)⟩
    · cases q
  · obtain ⟨ds, e1, q⟩ := Option.bind_eq_some_iff.mp q
    obtain ⟨⟨c1, c2, c3⟩, rfl⟩ := some_if q
    exact .inl ⟨d1, _, ds, r1.dp, r2.dp, e1, c1, c2, c3, z _ _ (Same.refl H) (.bl _)⟩
/-! is None -/
def isNo : PyData → Bool
  | .none => true
  | _ => false
def isNM (neg : Bool) (a b : PyData) : Option PyData := match b with
  | .none => some (.bool (xor neg (isNo a)))
  | _ => none
theorem isN_dec {K : PySem.W.Frag} {H : Hp} {v : V} {d : PyData} (r : RpA K H v d) : decide (v = .non) = isNo d := by
  cases r with
  | per r => cases r <;> rfl
  | seq _ _ => rfl
theorem r2_isN : R2m X.K .per (fun x y H Q => y = .non ∧ Q (.bl (decide (x = .non))) H) (isNM false) := by
  intro v u H Q d1 d2 d r1 r2 q z
  unfold isNM at q
  split at q
  · cases q
    refine ⟨r2.none, ?_⟩
    rw [isN_dec r1]
    exact z _ _ (Same.refl H) (by rw [Bool.false_xor]; exact .bl _)
  · cases q
theorem r2_notN : R2m X.K .per (fun x y H Q => y = .non ∧ Q (.bl (!decide (x = .non))) H) (isNM true) := by
  intro v u H Q d1 d2 d r1 r2 q z
  unfold isNM at q
  split at q
  · cases q
    refine ⟨r2.none, ?_⟩
    rw [isN_dec r1]
    exact z _ _ (Same.refl H) (by rw [Bool.true_xor]; exact .bl _)
  · cases q
/-! an item -/
def ixM : PyData → PyData → Option PyData
  | .list ds, .int i => atI ds i
  | .tuple ds, .int i => atI ds i
  | .str z, .int i => if z.length ≤ sizeLine then (atI z.cps.toList i).map fun c => .str ⟨#[c]⟩ else none
  | _, _ => none
theorem Rps.atI {K : PySem.W.Frag} {H : Hp} {vs : List V} {ds : List PyData} {i : Int} {d : PyData} (r : Rps K H vs ds) (h : L2.atI ds i = some d) : ∃ v, L2.atI vs i = some v ∧ Rp K H v d := by
  unfold L2.atI at h ⊢
  rw [r.length]
  obtain ⟨j, e1, e2⟩ := Option.bind_eq_some_iff.mp h
  obtain ⟨v, q1, q2⟩ := r.get e2
  exact ⟨v, by rw [e1]; exact q1, q2⟩
theorem r2_ix : R2m X.K .per (rIx X.K) ixM := by
  intro v u H Q d1 d2 d r1 r2 q z
  cases d1 with
  | list ds => cases d2 with
    | int i =>
      obtain ⟨a, vs, rfl, e1, p1⟩ := r1.list
      obtain ⟨w, h1, h2⟩ := p1.atI q
      exact .inl ⟨a, vs, i, w, rfl, r2.int, e1, h1, z _ _ (Same.refl H) h2⟩
    | _ => cases q
  | tuple ds => cases d2 with
    | int i =>
      obtain ⟨a, vs, rfl, e1, p1⟩ := r1.tuple
      obtain ⟨w, h1, h2⟩ := p1.atI q
      exact .inr (.inl ⟨a, vs, i, w, rfl, r2.int, e1, h1, z _ _ (Same.refl H) h2⟩)
    | _ => cases q
  | str x => cases d2 with
    | int i =>
      have q : (if x.length ≤ sizeLine then (L2.atI x.cps.toList i).map (fun c => PyData.str ⟨#[c]⟩) else none) = some d := q
      split at q
      · rename_i hl
        obtain ⟨c, e1, rfl⟩ := Option.map_eq_some_iff.mp q
        exact .inr (.inr ⟨x, i, c, r1.str, r2.int, hl, e1, z _ _ (Same.refl H) (.str _)⟩)
      · cases q
    | _ => cases q
  | _ => cases q
theorem pm_ix {a b : Expr} {ma mb : ME} {k1 k2 : Kd} {pos : Pos} (ha : PEm X xo k1 a ma) (hb : PEm X xo k2 b mb) (hs : PlainIx b := by intro _ _; rfl) : PEm X xo .per (.Subscript a b pos) (mBin ixM ma mb) :=
  (pe_ix ix_seq ha hb hs).weak fun _ _ _ h => tE_bin r2_ix h
end
end PL

namespace PL
open PySem PySem.Spec PyProof.Rows L2
section
variable {X : Cx} {xo : XO} {e a b c o : Expr} {es : List Expr} {k k1 k2 : Kd} {m ma mb : ME} {mt mu : MT} {ms : MA} {ks : List Bool} {pos p : Pos}
/-! ### slices -/
abbrev MO := Rho → Option (Option Int)
def mNo : MO := fun _ => some none
def mSome (m : ME) : MO := fun ρ => (m ρ).bind fun d => match d with
  | .int i => some (some i)
  | _ => none
def tOm (K : PySem.W.Frag) (xo : XO) (m : MO) : TO := fun σ H Q => ∃ ρ o, RdOk K xo H σ ρ ∧ m ρ = some o ∧ ∀ H', Same H H' → Q o H'
abbrev POm (X : Cx) (xo : XO) (e : Option Expr) (m : MO) : Prop := PO X e (tOm X.K xo m)
theorem _root_.L2.PO.weak {X : Cx} {e : Option Expr} {t t' : TO} (h : PO X e t) (w : ∀ σ H Q, t' σ H Q → t σ H Q) : PO X e t' := ⟨fun pins s σ H Q I hw => h.run pins s σ H Q I (w σ H Q hw)⟩
theorem pom_none : POm X xo none mNo := po_none.weak fun σ H Q ⟨ρ, o, R, q, z⟩ => by
  cases q
  exact z H (Same.refl H)
theorem pom_some (h : PEm X xo k e m) : POm X xo (some e) (mSome m) := (po_some h).weak fun σ H Q ⟨ρ, o, R, q, z⟩ => by
  obtain ⟨d, q1, q⟩ := Option.bind_eq_some_iff.mp q
  refine ⟨ρ, d, R, q1, fun v H' s r => ?_⟩
  cases d with
  | int i => cases q; exact ⟨i, r.toAny.int, z H' s⟩
  | _ => cases q
def cutD {α : Type} (xs : List α) (lo hi : Option Int) : List α := (xs.drop (HT.sIx xs.length 0 lo)).take (HT.sIx xs.length xs.length hi - HT.sIx xs.length 0 lo)
def slM (d : PyData) (lo hi : Option Int) : Option PyData := match d with
  | .list xs => some (.list (cutD xs lo hi))
  | .tuple xs => if HT.sIx xs.length 0 lo = 0 ∧ HT.sIx xs.length xs.length hi = xs.length then none else some (.tuple (cutD xs lo hi))
  | .str z => if z.length ≤ sizeLine then some (.str (cutS z lo hi)) else none
  | _ => none
theorem Rps.cut {K : PySem.W.Frag} {H : Hp} {vs : List V} {ds : List PyData} (r : Rps K H vs ds) (lo hi : Option Int) : Rps K H (cutV vs lo hi) (cutD ds lo hi) := by
  unfold cutV cutD
  rw [r.length]
  exact (r.drop _).take _
def rSlA (K : PySem.W.Frag) : V → Option Int → Option Int → Hp → VK → Prop := fun x lo hi H Q => rSlL K x lo hi H Q ∨ (rSlT K x lo hi H Q ∨ rSlS x lo hi H Q)
theorem sl_any : SlR X (rSlA X.K) := SlR.or sl_list (SlR.or sl_tup sl_str)
def mSl (m : ME) (lo hi : MO) : ME := fun ρ => (m ρ).bind fun d => (lo ρ).bind fun l => (hi ρ).bind fun h => slM d l h
theorem pm_sl {lo hi : Option Expr} {ml mh : MO} {p2 : Pos} (he : PEm X xo k1 e m) (hl : POm X xo lo ml) (hu : POm X xo hi mh) : PEm X xo .fre (.Subscript e (.Slice lo hi none p2) pos) (mSl m ml mh) := (pe_slice sl_any he hl hu).weak fun σ H Q ⟨ρ, d, R, q, z⟩ => by
  obtain ⟨x, q1, q⟩ := Option.bind_eq_some_iff.mp q
  obtain ⟨l, q2, q⟩ := Option.bind_eq_some_iff.mp q
  obtain ⟨h, q3, q⟩ := Option.bind_eq_some_iff.mp q
  refine ⟨ρ, x, R, q1, fun v H1 s1 r1 => ⟨ρ, l, R.mono s1, q2, fun H2 s2 => ⟨ρ, h, (R.mono s1).mono s2, q3, fun H3 s3 => ?_⟩⟩⟩
  have r := (r1.toAny.mono s2).mono s3
  have s := (s1.trans s2).trans s3
  cases x with
  | list xs =>
    cases q
    obtain ⟨a, vs, rfl, e1, p1⟩ := r.list
    exact .inl ⟨a, vs, rfl, e1, fun p hp => z _ _ (s.trans (same_new hp _)) (.inr ⟨p, _, _, rfl, rfl, s.free hp, upd_same, (p1.cut l h).mono (firm (same_new hp _))⟩)⟩
  | tuple xs =>
    have q : (if HT.sIx xs.length 0 l = 0 ∧ HT.sIx xs.length xs.length h = xs.length then none else some (PyData.tuple (cutD xs l h))) = some d := q
    split at q
    · cases q
    · rename_i hn
      cases q
      obtain ⟨a, vs, rfl, e1, p1⟩ := r.tuple
      exact .inr (.inl ⟨a, vs, rfl, e1, by rw [p1.length]; exact hn, fun p hp => z _ _ (s.trans (same_new hp _)) (.inl (.tup (.of upd_same) ((p1.cut l h).mono (firm (same_new hp _)))))⟩)
  | str y =>
    obtain ⟨c, rfl⟩ := some_if q
    exact .inr (.inr ⟨y, r.str, c, z _ _ s (.inl (.str _))⟩)
  | _ => cases q
/-! ### built-ins by one value -/
/-- the rule r of one value does f -/
def R1m (K : PySem.W.Frag) (k : Kd) (r : List V → Hp → VK → Prop) (f : PyData → Option PyData) : Prop := ∀ v H Q d1 d, RpA K H v d1 → f d1 = some d → (∀ v' H', Same H H' → RK K k H H' v' d → Q v' H') → r [v] H Q
def R2c (K : PySem.W.Frag) (k : Kd) (r : List V → Hp → VK → Prop) (f : PyData → PyData → Option PyData) : Prop := ∀ v u H Q d1 d2 d, RpA K H v d1 → RpA K H u d2 → f d1 d2 = some d → (∀ v' H', Same H H' → RK K k H H' v' d → Q v' H') → r [v, u] H Q
theorem tE_un {r : List V → Hp → VK → Prop} {f : PyData → Option PyData} (hr : R1m X.K k r f) {σ : L2.St} {H : Hp} {Q : VK} (h : tE X.K xo k (mUn f ma) σ H Q) : tCB r (tCons (tE X.K xo k1 ma) tNil) σ H Q := by
  obtain ⟨ρ, d, R, q, z⟩ := h
  obtain ⟨x, q1, q⟩ := Option.bind_eq_some_iff.mp q
  exact ⟨ρ, x, R, q1, fun v H1 s1 r1 => hr v H1 Q x d r1.toAny q fun v' H' s r' => z v' H' (s1.trans s) (r'.back s1)⟩
theorem tE_bi {r : List V → Hp → VK → Prop} {f : PyData → PyData → Option PyData} (hr : R2c X.K k r f) {σ : L2.St} {H : Hp} {Q : VK} (h : tE X.K xo k (mBin f ma mb) σ H Q) : tCB r (tCons (tE X.K xo k1 ma) (tCons (tE X.K xo k2 mb) tNil)) σ H Q := by
  obtain ⟨ρ, d, R, q, z⟩ := h
  obtain ⟨x, q1, q⟩ := Option.bind_eq_some_iff.mp q
  obtain ⟨y, q2, q⟩ := Option.bind_eq_some_iff.mp q
  exact ⟨ρ, x, R, q1, fun v H1 s1 r1 => ⟨ρ, y, R.mono s1, q2, fun u H2 s2 r2 => hr v u H2 Q x y d (r1.toAny.mono s2) r2.toAny q fun v' H' s r' => z v' H' ((s1.trans s2).trans s) (r'.back (s1.trans s2))⟩⟩
theorem pm_b1 {x : Str} {id : String} {r : List V → Hp → VK → Prop} {f : PyData → Option PyData} (hc : CallR X (.builtin id) r) (hr : R1m X.K k r f) (hv : bootBuiltins x = some (.builtin id)) (hm : X.mg x = none) (hg : Gl X x) (ha : PEm X xo k1 e m)
    (hs : starEach [e] X.env = [(false, eval e X.env)] := by rfl) (hn : x ≠ "__name__" := by decide) (hdb : (x == ("__debug__" : Str)) = false := by decide) : PEm X xo k (.Call (.Name x p) [e] [] pos) (mUn f m) :=
  (pe_callB hc hg hm hv (pa_cons ha pa_nil hs) hn hdb hs).weak fun _ _ _ h => tE_un hr h
theorem pm_t1 {x : Str} {T : String} {r : List V → Hp → VK → Prop} {f : PyData → Option PyData} (hc : CallR X (.type T) r) (hr : R1m X.K k r f) (hv : bootBuiltins x = some (.type T)) (hm : X.mg x = none) (hg : Gl X x) (ha : PEm X xo k1 e m)
    (hs : starEach [e] X.env = [(false, eval e X.env)] := by rfl) (hn : x ≠ "__name__" := by decide) (hdb : (x == ("__debug__" : Str)) = false := by decide) : PEm X xo k (.Call (.Name x p) [e] [] pos) (mUn f m) :=
  (pe_callTy hc hg hm hv (pa_cons ha pa_nil hs) hn hdb hs).weak fun _ _ _ h => tE_un hr h
theorem pm_b2 {x : Str} {id : String} {r : List V → Hp → VK → Prop} {f : PyData → PyData → Option PyData} (hc : CallR X (.builtin id) r) (hr : R2c X.K k r f) (hv : bootBuiltins x = some (.builtin id)) (hm : X.mg x = none) (hg : Gl X x) (ha : PEm X xo k1 a ma) (hb : PEm X xo k2 b mb)
    (hs : starEach [a, b] X.env = (false, eval a X.env) :: starEach [b] X.env := by rfl) (hs2 : starEach [b] X.env = [(false, eval b X.env)] := by rfl) (hn : x ≠ "__name__" := by decide) (hdb : (x == ("__debug__" : Str)) = false := by decide) : PEm X xo k (.Call (.Name x p) [a, b] [] pos) (mBin f ma mb) :=
  (pe_callB hc hg hm hv (pa_cons ha (pa_cons hb pa_nil hs2) hs) hn hdb hs (by rw [hs2]; rfl)).weak fun _ _ _ h => tE_bi hr h
def lenM : PyData → Option PyData
  | .list ds => some (.int ds.length)
  | .tuple ds => some (.int ds.length)
  | .str z => if z.length ≤ sizeLine then some (.int z.length) else none
  | _ => none
theorem r1_len : R1m X.K .per (fun xs H Q => ∃ x n, xs = [x] ∧ LenV X.K x H n ∧ Q (.int n) H) lenM := by
  intro v H Q d1 d r q z
  cases d1 with
  | list ds =>
    cases q
    obtain ⟨a, vs, rfl, e1, p1⟩ := r.list
    exact ⟨_, ds.length, rfl, .inl ⟨vs, e1, p1.length.symm⟩, z _ _ (Same.refl H) (.int _)⟩
  | tuple ds =>
    cases q
    obtain ⟨a, vs, rfl, e1, p1⟩ := r.tuple
    exact ⟨_, ds.length, rfl, .inr ⟨vs, e1, p1.length.symm⟩, z _ _ (Same.refl H) (.int _)⟩
  | str x =>
    obtain ⟨c, rfl⟩ := some_if q
    rw [r.str]
    exact ⟨_, x.length, rfl, ⟨c, rfl⟩, z _ _ (Same.refl H) (.int _)⟩
  | _ => cases q
theorem pm_len (hm : X.mg "len" = none) (hg : Gl X "len") (ha : PEm X xo k1 e m) (hs : starEach [e] X.env = [(false, eval e X.env)] := by rfl) : PEm X xo .per (.Call (.Name "len" p) [e] [] pos) (mUn lenM m) := pm_b1 call_len r1_len boot_len hm hg ha hs
def listM (d : PyData) : Option PyData := (itemsOf d).map .list
theorem RpA.items {K : PySem.W.Frag} {H : Hp} {v : V} {d : PyData} {ds : List PyData} (r : RpA K H v d) (q : itemsOf d = some ds) : ∃ a vs, v = .ref a ∧ (SqL K H a vs ∨ SqT K H a vs) ∧ Rps K H vs ds := by
  cases d with
  | list xs => cases q; obtain ⟨a, vs, e0, e1, p1⟩ := r.list; exact ⟨a, vs, e0, .inl e1, p1⟩
  | tuple xs => cases q; obtain ⟨a, vs, e0, e1, p1⟩ := r.tuple; exact ⟨a, vs, e0, .inr e1, p1⟩
  | _ => cases q
theorem r1_list : R1m X.K .new (fun xs H Q => ∃ p ys, xs = [.ref p] ∧ (SqL X.K H p ys ∨ SqT X.K H p ys) ∧ ∀ l, H l = none → Q (.ref l) (upd H l (.lst ys))) listM := by
  intro v H Q d1 d r q z
  obtain ⟨ds, q1, rfl⟩ := Option.map_eq_some_iff.mp q
  obtain ⟨a, vs, rfl, e1, p1⟩ := r.items q1
  exact ⟨a, vs, rfl, e1, fun p hp => z _ _ (same_new hp _) ⟨p, _, _, rfl, rfl, hp, upd_same, p1.mono (firm (same_new hp _))⟩⟩
theorem pm_list (hm : X.mg "list" = none) (hg : Gl X "list") (ha : PEm X xo k1 e m) (hs : starEach [e] X.env = [(false, eval e X.env)] := by rfl) : PEm X xo .new (.Call (.Name "list" p) [e] [] pos) (mUn listM m) := pm_t1 call_list_of r1_list boot_list hm hg ha hs
def tupleM (d : PyData) : Option PyData := (itemsOf d).map .tuple
theorem r1_tuple : R1m X.K .per (fun xs H Q => ∃ p ys, xs = [.ref p] ∧ ((SqL X.K H p ys ∧ ∀ l, H l = none → Q (.ref l) (upd H l (.tup ys))) ∨ (SqT X.K H p ys ∧ Q (.ref p) H))) tupleM := by
  intro v H Q d1 d r q z
  obtain ⟨ds, q1, rfl⟩ := Option.map_eq_some_iff.mp q
  obtain ⟨a, vs, rfl, e1, p1⟩ := r.items q1
  rcases e1 with e1 | e1
  · exact ⟨a, vs, rfl, .inl ⟨e1, fun p hp => z _ _ (same_new hp _) (.tup (.of upd_same) (p1.mono (firm (same_new hp _))))⟩⟩
  · exact ⟨a, vs, rfl, .inr ⟨e1, z _ _ (Same.refl H) (.tup e1 p1)⟩⟩
theorem pm_tuple (hm : X.mg "tuple" = none) (hg : Gl X "tuple") (ha : PEm X xo k1 e m) (hs : starEach [e] X.env = [(false, eval e X.env)] := by rfl) : PEm X xo .per (.Call (.Name "tuple" p) [e] [] pos) (mUn tupleM m) := pm_t1 call_tuple_of r1_tuple boot_tuple hm hg ha hs
def intM : PyData → Option PyData
  | .int i => some (.int i)
  | .bool k => some (.int (if k then 1 else 0))
  | .str x => if x.length ≤ 640 then (PySem.intText? x).map .int else none
  | _ => none
theorem r1_int : R1m X.K .per (fun xs H Q => ((∃ i, xs = [.int i] ∧ Q (.int i) H) ∨ ∃ k, xs = [.bl k] ∧ Q (.int (if k then 1 else 0)) H) ∨ ∃ a n, xs = [.str a] ∧ PySem.intText? a = some n ∧ a.length ≤ 640 ∧ Q (.int n) H) intM := by
  intro v H Q d1 d r q z
  cases d1 with
  | int i => cases q; exact .inl (.inl ⟨i, by rw [r.int], z _ _ (Same.refl H) (.int _)⟩)
  | bool i => cases q; exact .inl (.inr ⟨i, by rw [r.bool], z _ _ (Same.refl H) (.int _)⟩)
  | str x =>
    have q : (if x.length ≤ 640 then (PySem.intText? x).map PyData.int else none) = some d := q
    split at q
    · rename_i hl
      obtain ⟨n, q1, rfl⟩ := Option.map_eq_some_iff.mp q
      exact .inr ⟨x, n, by rw [r.str], q1, hl, z _ _ (Same.refl H) (.int _)⟩
    · cases q
  | _ => cases q
theorem pm_toint (hm : X.mg "int" = none) (hg : Gl X "int") (ha : PEm X xo k1 e m) (hs : starEach [e] X.env = [(false, eval e X.env)] := by rfl) : PEm X xo .per (.Call (.Name "int" p) [e] [] pos) (mUn intM m) := pm_t1 (CallR.or call_int1 call_int_str) r1_int boot_int hm hg ha hs
def strM : PyData → Option PyData
  | .int i => if i.natAbs.log2 < 1920 then some (.str (toString i)) else none
  | _ => none
theorem r1_str : R1m X.K .per (fun xs H Q => ∃ i, xs = [.int i] ∧ i.natAbs.log2 < 1920 ∧ Q (.str (toString i)) H) strM := by
  intro v H Q d1 d r q z
  cases d1 with
  | int i =>
    obtain ⟨c, rfl⟩ := some_if q
    exact ⟨i, by rw [r.int], c, z _ _ (Same.refl H) (.str _)⟩
  | _ => cases q
theorem pm_tostr (hm : X.mg "str" = none) (hg : Gl X "str") (ha : PEm X xo k1 e m) (hs : starEach [e] X.env = [(false, eval e X.env)] := by rfl) : PEm X xo .per (.Call (.Name "str" p) [e] [] pos) (mUn strM m) := pm_t1 call_str_int r1_str boot_str hm hg ha hs
def ordM : PyData → Option PyData
  | .str x => if x.length = 1 then some (.int (x.cps.getD 0 0 : Nat)) else none
  | _ => none
theorem r1_ord : R1m X.K .per (fun xs H Q => ∃ x, xs = [.str x] ∧ x.length = 1 ∧ Q (.int (x.cps.getD 0 0 : Nat)) H) ordM := by
  intro v H Q d1 d r q z
  cases d1 with
  | str i =>
    obtain ⟨c, rfl⟩ := some_if q
    exact ⟨i, by rw [r.str], c, z _ _ (Same.refl H) (.int _)⟩
  | _ => cases q
theorem pm_ord (hm : X.mg "ord" = none) (hg : Gl X "ord") (ha : PEm X xo k1 e m) (hs : starEach [e] X.env = [(false, eval e X.env)] := by rfl) : PEm X xo .per (.Call (.Name "ord" p) [e] [] pos) (mUn ordM m) := pm_b1 call_ord r1_ord boot_ord hm hg ha hs
def maxM : PyData → PyData → Option PyData := int2 fun i j => some (.int (if j > i then j else i))
def minM : PyData → PyData → Option PyData := int2 fun i j => some (.int (if j < i then j else i))
theorem r2_max : R2c X.K .per (fun xs H Q => ∃ i j, xs = [.int i, .int j] ∧ Q (.int (if j > i then j else i)) H) maxM := by
  intro v u H Q d1 d2 d r1 r2 q z
  obtain ⟨i, j, rfl, rfl, q⟩ := int2_some q
  cases q
  exact ⟨i, j, by rw [r1.int, r2.int], z _ _ (Same.refl H) (.int _)⟩
theorem r2_min : R2c X.K .per (fun xs H Q => ∃ i j, xs = [.int i, .int j] ∧ Q (.int (if j < i then j else i)) H) minM := by
  intro v u H Q d1 d2 d r1 r2 q z
  obtain ⟨i, j, rfl, rfl, q⟩ := int2_some q
  cases q
  exact ⟨i, j, by rw [r1.int, r2.int], z _ _ (Same.refl H) (.int _)⟩
theorem pm_max (hc : X.calm = true) (hm : X.mg "max" = none) (hg : Gl X "max") (ha : PEm X xo k1 a ma) (hb : PEm X xo k2 b mb) (hs : starEach [a, b] X.env = (false, eval a X.env) :: starEach [b] X.env := by rfl) (hs2 : starEach [b] X.env = [(false, eval b X.env)] := by rfl) : PEm X xo .per (.Call (.Name "max" p) [a, b] [] pos) (mBin maxM ma mb) :=
  pm_b2 (call_max2 hc) r2_max boot_max hm hg ha hb hs hs2
theorem pm_min (hc : X.calm = true) (hm : X.mg "min" = none) (hg : Gl X "min") (ha : PEm X xo k1 a ma) (hb : PEm X xo k2 b mb) (hs : starEach [a, b] X.env = (false, eval a X.env) :: starEach [b] X.env := by rfl) (hs2 : starEach [b] X.env = [(false, eval b X.env)] := by rfl) : PEm X xo .per (.Call (.Name "min" p) [a, b] [] pos) (mBin minM ma mb) :=
  pm_b2 (call_min2 hc) r2_min boot_min hm hg ha hb hs hs2
/-! ### isinstance of a built-in class -/
def tyName : PyData → String
  | .none => "NoneType"
  | .bool _ => "bool"
  | .int _ => "int"
  | .str _ => "str"
  | .list _ => "list"
  | .tuple _ => "tuple"
  | .dict _ => "dict"
def isiM (T : String) (d : PyData) : Option PyData := (kitB (tyName d) T).map .bool
theorem RpA.ty {K : PySem.W.Frag} {H : Hp} {v : V} {d : PyData} (r : RpA K H v d) : TyX K H v (.type (tyName d)) := by
  cases r with
  | per r => cases r with
    | non => exact .base .non
    | bl b => exact .base (.bl b)
    | int i => exact .base (.int i)
    | str x => exact .base (.str x)
    | lst e _ => exact .base (.frz e)
    | tup e _ =>
      rcases e with (e | ⟨o, e⟩) | ⟨o, its, n, e, c, _⟩
      · exact .base (.tup e)
      · exact .fTuple e
      · exact .kTuple e c
  | seq e _ =>
    rcases e with (e | ⟨o, e⟩) | ⟨o, its, n, e, c, _⟩
    · exact .base (.lst e)
    · exact .base (.frz e)
    · exact .kList e c
theorem pm_isi {x : Str} {T : String} {p2 : Pos} (hm : X.mg "isinstance" = none) (hg : Gl X "isinstance") (hv : bootBuiltins x = some (.type T)) (hmx : X.mg x = none) (hgx : Gl X x) (ha : PEm X xo k1 e m)
    (hs : starEach [e, .Name x p2] X.env = (false, eval e X.env) :: starEach [.Name x p2] X.env := by rfl) (hs2 : starEach [.Name x p2] X.env = [(false, eval (.Name x p2) X.env)] := by rfl) (hnx : x ≠ "__name__" := by decide) (hdx : (x == ("__debug__" : Str)) = false := by decide) :
    PEm X xo .per (.Call (.Name "isinstance" p) [e, .Name x p2] [] pos) (mUn (isiM T) m) :=
  (pe_callB call_isi hg hm boot_isinstance (pa_cons ha (pa_cons (pe_bltn (v := .ty T) hgx hmx hv rfl hnx hdx) pa_nil hs2) hs) (by decide) (by decide) hs (by rw [hs2]; rfl)).weak fun σ H Q ⟨ρ, d, R, q, z⟩ => by
    obtain ⟨y, q1, q⟩ := Option.bind_eq_some_iff.mp q
    obtain ⟨b, q2, rfl⟩ := Option.map_eq_some_iff.mp q
    exact ⟨ρ, y, R, q1, fun v H1 s1 r1 => ⟨v, .ty T, _, _, b, rfl, .ty T, r1.toAny.ty, kit_ty q2, z _ _ s1 (.bl _)⟩⟩
/-! ### sep.join(texts), text.count(text) -/
def strsOf : List PyData → Option (List Str)
  | [] => some []
  | .str x :: ds => (strsOf ds).map (x :: ·)
  | _ :: _ => none
def joinM (a b : PyData) : Option PyData := match a with
  | .str x => (itemsOf b).bind fun ds => (strsOf ds).bind fun ys => if (ys.map (·.length)).sum + ys.length * x.length ≤ 16777216 then some (.str (Txt.join x ys)) else none
  | _ => none
theorem Rps.strs {K : PySem.W.Frag} {H : Hp} : ∀ {vs : List V} {ds : List PyData} {ys : List Str}, Rps K H vs ds → strsOf ds = some ys → vs = ys.map V.str
  | _, _, _, .nil, q => by cases q; rfl
  | _, _, _, .cons r t, q => by
    cases r with
    | str x =>
      obtain ⟨zs, q1, rfl⟩ := Option.map_eq_some_iff.mp q
      rw [t.strs q1]
      rfl
    | _ => cases q
theorem pm_join {apos : Pos} (ho : PEm X xo k1 o ma) (he : PEm X xo k2 e mb) (hs : starEach [e] X.env = [(false, eval e X.env)] := by rfl) (hbase : attributeBase o "join" X.env (eval o X.env) = eval o X.env := by rfl) (hline : (apos.endLine == pos.line) = true := by rfl) :
    PEm X xo .per (.Call (.Attribute o "join" apos) [e] [] pos) (mBin joinM ma mb) := (pe_join ho he hs hbase hline).weak fun σ H Q ⟨ρ, d, R, q, z⟩ => by
  obtain ⟨x, q1, q⟩ := Option.bind_eq_some_iff.mp q
  obtain ⟨y, q2, q⟩ := Option.bind_eq_some_iff.mp q
  cases x with
  | str x =>
    obtain ⟨ds, q3, q⟩ := Option.bind_eq_some_iff.mp q
    obtain ⟨ys, q4, q⟩ := Option.bind_eq_some_iff.mp q
    obtain ⟨c, rfl⟩ := some_if q
    refine ⟨ρ, _, R, q1, fun v H1 s1 r1 => ?_⟩
    have e1 := r1.toAny.str
    subst e1
    refine ⟨⟨_, rfl⟩, ρ, y, R.mono s1, q2, fun u H2 s2 r2 => ?_⟩
    obtain ⟨a, vs, rfl, e2, p2⟩ := r2.toAny.items q3
    have e3 := p2.strs q4
    subst e3
    exact ⟨x, a, ys, rfl, rfl, e2, c, z _ _ (s1.trans s2) (.str _)⟩
  | _ => cases q
end
end PL

namespace PL
open PySem PySem.Spec PyProof.Rows L2
/-! ### statements' mirrors -/
inductive Out where
  | nx (ρ : Rho) | rt (d : PyData) (ρ : Rho) | bk (ρ : Rho) | ct (ρ : Rho) | ex (c : Str) (ρ : Rho) | stuck
abbrev MS := Rho → Out
/-- a value handed back: it stays, or is a new list of nobody -/
def RKr (K : PySem.W.Frag) (rk : Kd) (B : Bd) (H' : Hp) (φ' : Nat → Addr → Prop) (v : V) (d : PyData) : Prop := match rk with
  | .per => Rp K H' v d
  | .new => (v = .non ∧ d = .none) ∨ (∃ t a w xs ds d2, v = .ref t ∧ d = .tuple [.list ds, d2] ∧ SqT K H' t [.ref a, w] ∧ B.H0 a = none ∧ H' a = some (.lst xs) ∧ Rps K H' xs ds ∧ Rp K H' w d2 ∧ (∀ j, B.io j ≠ none → ¬ φ' j a))
    ∨ ∃ a xs ds, v = .ref a ∧ d = .list ds ∧ B.H0 a = none ∧ H' a = some (.lst xs) ∧ Rps K H' xs ds ∧ ∀ j, B.io j ≠ none → ¬ φ' j a
  | _ => Rp K H' v d ∨ ∃ a xs ds, v = .ref a ∧ d = .list ds ∧ B.H0 a = none ∧ H' a = some (.lst xs) ∧ Rps K H' xs ds ∧ ∀ j, B.io j ≠ none → ¬ φ' j a
/-- how the heap moves on: what is no slot's own stands -/
structure Ev (H : Hp) (φ : Nat → Addr → Prop) (H' : Hp) (φ' : Nat → Addr → Prop) : Prop where
  st : ∀ b o, (¬ ∃ j, φ j b) → H b = some o → H' b = some o
  sub : ∀ j b, φ' j b → (∃ l, φ l b) ∨ H b = none
theorem Ev.refl (H : Hp) (φ : Nat → Addr → Prop) : Ev H φ H φ := ⟨fun _ _ _ h => h, fun j _ h => .inl ⟨j, h⟩⟩
theorem Ev.trans {H H1 H2 : Hp} {φ φ1 φ2 : Nat → Addr → Prop} (a : Ev H φ H1 φ1) (b : Ev H1 φ1 H2 φ2) : Ev H φ H2 φ2 := by
  refine ⟨fun c o n h => b.st c o (fun ⟨j, z⟩ => ?_) (a.st c o n h), fun j c h => ?_⟩
  · rcases a.sub j c z with z | z
    · exact n z
    · rw [h] at z; cases z
  · rcases b.sub j c h with ⟨l, z⟩ | z
    · exact a.sub l c z
    · by_cases n : ∃ j, φ j c
      · exact .inl n
      · refine .inr ?_
        cases q : H c with
        | none => rfl
        | some o => rw [a.st c o n q] at z; cases z
theorem Ev.same {H H' : Hp} {φ : Nat → Addr → Prop} (s : Same H H') : Ev H φ H' φ := ⟨fun b o _ h => s b o h, fun j _ h => .inl ⟨j, h⟩⟩
theorem Ev.firm {K : PySem.W.Frag} {B : Bd} {H H' : Hp} {σ : L2.St} {ρ : Rho} {φ φ' : Nat → Addr → Prop} (v : Ev H φ H' φ') (h : EnvOk K B H σ ρ φ) : Firm H H' :=
  ⟨fun b xs q => v.st b _ (fun ⟨j, z⟩ => by obtain ⟨o, q', so⟩ := h.there z; rw [q] at q'; cases q'; exact so) q, fun b o u q => v.st b _ (fun ⟨j, z⟩ => by obtain ⟨o, q', so⟩ := h.there z; rw [q] at q'; cases q'; exact so) q⟩
def Post (K : PySem.W.Frag) (B : Bd) (W : WX) (rk : Kd) (D : Ends) (H0 : Hp) (φ0 : Nat → Addr → Prop) : Out → Prop
  | .nx ρ => ∀ σ H φ, EnvOk K B H σ ρ φ → Ev H0 φ0 H φ → D.nx σ H
  | .bk ρ => ∀ σ H φ, EnvOk K B H σ ρ φ → Ev H0 φ0 H φ → D.bk σ H
  | .ct ρ => ∀ σ H φ, EnvOk K B H σ ρ φ → Ev H0 φ0 H φ → D.ct σ H
  | .rt d ρ => ∀ v σ H φ, EnvOk K B H σ ρ φ → RKr K rk B H φ v d → D.rt v H
  | .ex c ρ => ∀ σ H φ, EnvOk K B H σ ρ φ → Ev H0 φ0 H φ → W (.ref (He.ga K c)) none σ H
  | .stuck => False
theorem Post.mono {K : PySem.W.Frag} {B : Bd} {W : WX} {rk : Kd} {D : Ends} {H H1 : Hp} {φ φ1 : Nat → Addr → Prop} {o : Out} (h : Post K B W rk D H φ o) (v : Ev H φ H1 φ1) : Post K B W rk D H1 φ1 o := by
  cases o with
  | nx ρ => exact fun σ H' φ' E w => h σ H' φ' E (v.trans w)
  | bk ρ => exact fun σ H' φ' E w => h σ H' φ' E (v.trans w)
  | ct ρ => exact fun σ H' φ' E w => h σ H' φ' E (v.trans w)
  | ex c ρ => exact fun σ H' φ' E w => h σ H' φ' E (v.trans w)
  | rt d ρ => exact h
  | stuck => exact h
def tS (K : PySem.W.Frag) (B : Bd) (W : WX) (rk : Kd) (m : MS) : TS := fun D σ H => ∃ ρ φ, EnvOk K B H σ ρ φ ∧ Post K B W rk D H φ (m ρ)
abbrev PSm (X : Cx) (B : Bd) (W : WX) (rk : Kd) (st : Stmt) (m : MS) : Prop := PS X st (tS X.K B W rk m)
abbrev PSsm (X : Cx) (B : Bd) (W : WX) (rk : Kd) (st : List Stmt) (m : MS) : Prop := PSs X st (tS X.K B W rk m)
section
variable {X : Cx} {B : Bd} {W : WX} {rk : Kd} {st : Stmt} {rest body els : List Stmt} {e : Expr} {m ma : ME} {mt : MT} {s1 s2 : MS} {k : Kd} {pos : Pos}
def sSkip : MS := .nx
def sSeq (a b : MS) : MS := fun ρ => match a ρ with
  | .nx ρ' => b ρ'
  | o => o
theorem sm_nil : PSsm X B W rk [] sSkip := pss_nil.weak fun D σ H ⟨ρ, φ, E, q⟩ => q σ H φ E (Ev.refl _ _)
theorem sm_cons (h1 : PSm X B W rk st s1) (h2 : PSsm X B W rk rest s2) : PSsm X B W rk (st :: rest) (sSeq s1 s2) := (pss_cons h1 h2).weak fun D σ H ⟨ρ, φ, E, q⟩ => by
  refine ⟨ρ, φ, E, ?_⟩
  unfold sSeq at q
  cases h : s1 ρ with
  | nx ρ' => rw [h] at q; exact fun σ' H' φ' E' v => ⟨ρ', φ', E', q.mono v⟩
  | _ => rw [h] at q; exact q
theorem sm_one (h1 : PSm X B W rk st s1) : PSsm X B W rk [st] s1 := pss_one h1
/-- name = a value that stays -/
def sAsg (i : Nat) (m : ME) : MS := fun ρ => match ρ[i]? with
  | some (.o _) => .stuck
  | _ => match m ρ with
    | some d => .nx (ρ.set i (.d d))
    | none => .stuck
theorem notO {ρ : Rho} {i : Nat} {α : Type} {f : Option Sl → α} {x y : α} (h : (match ρ[i]? with
    | some (.o _) => x
    | _ => y) ≠ x) : ∀ ob, ρ[i]? ≠ some (.o ob) := fun ob e => by rw [e] at h; exact h rfl
theorem sAsg_ok {i : Nat} {ρ : Rho} (h : sAsg i m ρ ≠ .stuck) : (∀ ob, ρ[i]? ≠ some (.o ob)) ∧ ∃ d, m ρ = some d ∧ sAsg i m ρ = .nx (ρ.set i (.d d)) := by
  unfold sAsg at h ⊢
  split at h
  · exact absurd rfl h
  · rename_i hn
    cases q : m ρ with
    | none => rw [q] at h; exact absurd rfl h
    | some d => exact ⟨fun ob e => hn ob e, d, rfl, rfl⟩
theorem Post.ns {K : PySem.W.Frag} {D : Ends} {H : Hp} {φ : Nat → Addr → Prop} {o : Out} (h : Post K B W rk D H φ o) : o ≠ .stuck := fun e => by subst e; exact h
theorem sm_set {i : Nat} {x : Str} {pos' : Pos} (hN : X.N.Nodup) (hi : X.N[i]? = some x) (hx : Loc X.env.scope x) (he : PEm X B.xo .per e m) (hs : swapsWith e (some (.Name x pos')) pos.line X.env = pure false := by rfl)
    (hf : X.fn x = true ∨ X.env.scope.names.lookup x = some .local := by first | exact .inl rfl | exact .inr rfl | assumption) : PSm X B W rk (.Assign [.Name x pos'] e pos) (sAsg i m) :=
  (ps_set hN hi hx he hs hf).weak fun D σ H ⟨ρ, φ, E, q⟩ => by
    obtain ⟨hn, d, h1, h2⟩ := sAsg_ok q.ns
    rw [h2] at q
    exact ⟨ρ, d, E.rd, h1, fun v H' s r => q _ _ _ ((E.same s).setD hn r) (Ev.same s)⟩
/-- name = a new list, the slot's own from here on -/
def sNew (i : Nat) (m : ME) : MS := fun ρ => match ρ[i]? with
  | some (.o _) => .stuck
  | none => .stuck
  | _ => match m ρ with
    | some (.list ds) => .nx (ρ.set i (.o (.lst ds)))
    | _ => .stuck
theorem sNew_ok {i : Nat} {ρ : Rho} (h : sNew i m ρ ≠ .stuck) : (∀ ob, ρ[i]? ≠ some (.o ob)) ∧ i < ρ.length ∧ ∃ ds, m ρ = some (.list ds) ∧ sNew i m ρ = .nx (ρ.set i (.o (.lst ds))) := by
  unfold sNew at h ⊢
  cases e : ρ[i]? with
  | none => rw [e] at h; exact absurd rfl h
  | some s =>
    have hl := (List.getElem?_eq_some_iff.mp e).1
    rw [e] at h
    cases s with
    | o ob => exact absurd rfl h
    | _ =>
      refine ⟨(by intro ob z; cases z), hl, ?_⟩
      cases q : m ρ with
      | none => rw [q] at h; exact absurd rfl h
      | some d =>
        cases d with
        | list ds => exact ⟨ds, rfl, rfl⟩
        | _ => rw [q] at h; exact absurd rfl h
theorem sm_new {i : Nat} {x : Str} {pos' : Pos} (hN : X.N.Nodup) (hi : X.N[i]? = some x) (hx : Loc X.env.scope x) (he : PEm X B.xo .new e m) (hs : swapsWith e (some (.Name x pos')) pos.line X.env = pure false := by rfl)
    (hf : X.fn x = true ∨ X.env.scope.names.lookup x = some .local := by first | exact .inl rfl | exact .inr rfl | assumption) : PSm X B W rk (.Assign [.Name x pos'] e pos) (sNew i m) :=
  (ps_set hN hi hx he hs hf).weak fun D σ H ⟨ρ, φ, E, q⟩ => by
    obtain ⟨hn, hl, ds, h1, h2⟩ := sNew_ok q.ns
    rw [h2] at q
    refine ⟨ρ, _, E.rd, h1, fun v H' s ⟨a, xs, es, ev, ed, n, ha, r⟩ => ?_⟩
    subst ev
    cases ed
    exact q _ _ _ (E.setNew hn hl s n ha r) ⟨fun b o _ h => s b o h, fun j b z => z.elim (fun z => .inr (by rw [z.2]; exact n)) fun z => .inl ⟨j, z⟩⟩
def sRet (m : ME) : MS := fun ρ => match m ρ with
  | some d => .rt d ρ
  | none => .stuck
theorem sm_ret (he : PEm X B.xo .per e m) (hrk : rk ≠ .new := by intro z; cases z) : PSm X B W rk (.Return (some e) pos) (sRet m) := (ps_ret he).weak fun D σ H ⟨ρ, φ, E, q⟩ => by
  unfold sRet at q
  cases h : m ρ with
  | none => rw [h] at q; exact q.elim
  | some d =>
    rw [h] at q
    refine ⟨ρ, d, E.rd, h, fun v H' s r => q v σ H' φ (E.same s) ?_⟩
    cases rk with
    | per => exact r
    | new => exact absurd rfl hrk
    | _ => exact .inl r
/-- a new list handed back as it is -/
theorem sm_retF (he : PEm X B.xo .fre e m) : PSm X B W .fre (.Return (some e) pos) (sRet m) := (ps_ret he).weak fun D σ H ⟨ρ, φ, E, q⟩ => by
  unfold sRet at q
  cases h : m ρ with
  | none => rw [h] at q; exact q.elim
  | some d =>
    rw [h] at q
    refine ⟨ρ, d, E.rd, h, fun v H' s r => q v σ H' φ (E.same s) ?_⟩
    rcases r with r | ⟨a, xs, ds, e1, e2, n, ha, r⟩
    · exact .inl r
    · exact .inr ⟨a, xs, ds, e1, e2, (E.new0 n).1, ha, r, fun j _ z => by obtain ⟨o, q, _⟩ := E.there z; rw [n] at q; cases q⟩
def sIf (t : MT) (a b : MS) : MS := fun ρ => match t ρ with
  | some true => a ρ
  | some false => b ρ
  | none => .stuck
theorem sm_if {c : Expr} (hc : PTm X B.xo c mt) (ha : PSsm X B W rk body s1) (hb : PSsm X B W rk els s2) : PSm X B W rk (.If c body els pos) (sIf mt s1 s2) := (ps_if hc ha hb).weak fun D σ H ⟨ρ, φ, E, q⟩ => by
  unfold sIf at q
  cases h : mt ρ with
  | none => rw [h] at q; exact q.elim
  | some b =>
    rw [h] at q
    cases b with
    | true => exact ⟨ρ, true, E.rd, h, fun H' s => ⟨ρ, φ, E.same s, q.mono (Ev.same s)⟩⟩
    | false => exact ⟨ρ, false, E.rd, h, fun H' s => ⟨ρ, φ, E.same s, q.mono (Ev.same s)⟩⟩
def sNever : MS := fun _ => .stuck
theorem sm_never : PSm X B W rk st sNever := ps_never.weak fun D σ H ⟨ρ, φ, E, q⟩ => q
theorem sms_never : PSsm X B W rk rest sNever := pss_never.weak fun D σ H ⟨ρ, φ, E, q⟩ => q
theorem sm_pass : PSm X B W rk (.Pass pos) sSkip := ps_pass.weak fun D σ H ⟨ρ, φ, E, q⟩ => q σ H φ E (Ev.refl _ _)
/-! own lists: append -/
theorem EnvOk.turn {K : PySem.W.Frag} {H H' : Hp} {σ : L2.St} {ρ : Rho} {φ : Nat → Addr → Prop} {i : Nat} {x : Addr} {ob ob' : Ob} {fp : Addr → Prop} (h : EnvOk K B H σ ρ φ) (hi : ρ[i]? = some (.o ob)) (hσ : σ[i]? = some (some (.ref x)))
    (k : ∀ b o, ¬ φ i b → H b = some o → H' b = some o) (r : OwnRep K H' fp x ob') (sub : ∀ b, fp b → φ i b ∨ H b = none) (st : ∀ b, φ i b → ∃ o, H' b = some o) :
    EnvOk K B H' σ (ρ.set i (.o ob')) (fun j => if j = i then fp else φ j) := by
  have f : Firm H H' := ⟨fun b xs q => k b _ (fun z => by obtain ⟨o, q', so⟩ := h.there z; rw [q] at q'; cases q'; exact so) q, fun b o u q => k b _ (fun z => by obtain ⟨o, q', so⟩ := h.there z; rw [q] at q'; cases q'; exact so) q⟩
  have hl : i < ρ.length := (List.getElem?_eq_some_iff.mp hi).1
  have old : ∀ j b, φ j b → ∃ o, H b = some o := fun j b z => let ⟨o, q, _⟩ := h.there z; ⟨o, q⟩
  refine ⟨by simp [h.len], fun j s q => ?_, fun j q b hb => ?_, fun j l b hj hk => ?_, fun b o n q => ?_, fun b z => ?_, fun j b hb => ?_, fun j y q => ?_, h.xo.setR i (fun c z => by cases z)⟩
  · by_cases ej : i = j
    · subst ej
      rw [List.getElem?_set_self hl] at q
      cases q
      rw [hσ]
      simp only [if_true]
      exact .o r
    · rw [List.getElem?_set_ne ej] at q
      have z := h.sl j s q
      simp only [if_neg (Ne.symm ej)]
      generalize σ[j]? = v at z
      cases z with
      | nil z => exact .nil z
      | d r z => exact .d (r.mono f) z
      | b q' r z =>
        refine .b (q'.imp (fun ⟨rd, na⟩ => ⟨?_, fun ⟨l, hl⟩ => ?_⟩) id) (r.mono f) z
        · rcases rd with y | ⟨o, y⟩
          · exact .inl (k _ _ (fun z => na ⟨i, z⟩) y)
          · exact .inr ⟨o, k _ _ (fun z => na ⟨i, z⟩) y⟩
        · by_cases el : l = i
          · subst el
            simp only [if_true] at hl
            rcases sub _ hl with z | z
            · exact na ⟨_, z⟩
            · rcases rd with y | ⟨o, y⟩ <;> (rw [z] at y; cases y)
          · simp only [if_neg el] at hl
            exact na ⟨l, hl⟩
      | o r => exact .o (r.mono f fun b o hb => k b o (fun z => ej (h.dis i j b z hb)))
      | x z => exact .x z
      | r r nr z =>
        refine .r (r.mono f fun b o hb => k b o (fun z => nr b hb ⟨i, z⟩)) (fun b hb ⟨l, hl⟩ => ?_) z
        by_cases el : l = i
        · subst el
          simp only [if_true] at hl
          rcases sub _ hl with z | z
          · exact nr b hb ⟨_, z⟩
          · obtain ⟨o, q, _⟩ := r.soft b hb
            rw [z] at q; cases q
        · simp only [if_neg el] at hl
          exact nr b hb ⟨l, hl⟩
  · have ne : j ≠ i := fun e => by
      subst e
      rw [List.getElem?_eq_none_iff] at q
      simp at q
      omega
    simp only [if_neg ne] at hb
    exact h.out j (by rw [List.getElem?_eq_none_iff] at q ⊢; simpa using q) b hb
  · by_cases e1 : j = i
    · by_cases e2 : l = i
      · rw [e1, e2]
      · simp only [if_pos e1] at hj
        simp only [if_neg e2] at hk
        rcases sub b hj with z | z
        · exact absurd (h.dis i l b z hk) (Ne.symm e2)
        · obtain ⟨o, q⟩ := old l b hk; rw [z] at q; cases q
    · simp only [if_neg e1] at hj
      by_cases e2 : l = i
      · simp only [if_pos e2] at hk
        rcases sub b hk with z | z
        · exact absurd (h.dis i j b z hj) (Ne.symm e1)
        · obtain ⟨o, q⟩ := old j b hj; rw [z] at q; cases q
      · simp only [if_neg e2] at hk
        exact h.dis j l b hj hk
  · by_cases z : φ i b
    · rcases h.sub i b z with z | z
      · exact absurd z n
      · rw [z] at q; cases q
    · exact k b o z (h.frm b o n q)
  · by_cases hz : φ i b
    · exact st b hz
    · obtain ⟨o, q⟩ := h.frz b z
      exact ⟨o, k b o hz q⟩
  · by_cases e1 : j = i
    · simp only [if_pos e1] at hb
      rcases sub b hb with z | z
      · exact h.sub i b z
      · exact .inr (h.new0 z).1
    · simp only [if_neg e1] at hb
      exact h.sub j b hb
  · obtain ⟨q1, ob2, q2⟩ := h.io j y q
    refine ⟨q1, ?_⟩
    by_cases ej : i = j
    · subst ej; exact ⟨ob', List.getElem?_set_self hl⟩
    · exact ⟨ob2, by rw [List.getElem?_set_ne ej]; exact q2⟩
theorem EnvOk.own {K : PySem.W.Frag} {H : Hp} {σ : L2.St} {ρ : Rho} {φ : Nat → Addr → Prop} {i : Nat} {ob : Ob} (h : EnvOk K B H σ ρ φ) (hi : ρ[i]? = some (.o ob)) : ∃ x, σ[i]? = some (some (.ref x)) ∧ OwnRep K H (φ i) x ob := by
  have z := h.sl i _ hi
  generalize hv : σ[i]? = v at z
  cases z with
  | o r => exact ⟨_, rfl, r⟩
def sApp (i : Nat) (m : ME) : MS := fun ρ => match ρ[i]? with
  | some (.o (.lst ds)) => match m ρ with
    | some d => if ds.length < sizeLine then .nx (ρ.set i (.o (.lst (ds ++ [d])))) else .stuck
    | none => .stuck
  | _ => .stuck
theorem sApp_ok {i : Nat} {ρ : Rho} (h : sApp i m ρ ≠ .stuck) : ∃ ds d, ρ[i]? = some (.o (.lst ds)) ∧ m ρ = some d ∧ ds.length < sizeLine ∧ sApp i m ρ = .nx (ρ.set i (.o (.lst (ds ++ [d])))) := by
  unfold sApp at h ⊢
  split at h
  · rename_i ds e
    cases q : m ρ with
    | none => rw [q] at h; exact absurd rfl h
    | some d =>
      rw [q] at h
      by_cases hl : ds.length < sizeLine
      · exact ⟨ds, d, e, rfl, hl, if_pos hl⟩
      · exact absurd (if_neg hl) h
  · exact absurd rfl h
theorem Ev.turn {K : PySem.W.Frag} {H H' : Hp} {φ : Nat → Addr → Prop} {i : Nat} {fp : Addr → Prop} (k : ∀ b o, ¬ φ i b → H b = some o → H' b = some o) (sub : ∀ b, fp b → φ i b ∨ H b = none) : Ev H φ H' (fun j => if j = i then fp else φ j) :=
  ⟨fun b o n h => k b o (fun z => n ⟨i, z⟩) h, fun j b z => by
    by_cases e : j = i
    · simp only [if_pos e] at z
      exact (sub b z).imp (fun z => ⟨i, z⟩) id
    · simp only [if_neg e] at z
      exact .inl ⟨j, z⟩⟩
theorem sm_app {i : Nat} {o : Expr} {apos p : Pos} (hbm : PE X (.Call (.Attribute o "append" apos) [e] [] p) (tBM X.K "list" rAppend (tVar i) (tCons (tE X.K B.xo .per m) tNil)))
    (hq : swapsWith (.Call (.Attribute o "append" apos) [e] [] p) none pos.line X.env = pure false := by rfl) :
    PSm X B W rk (.Expr (.Call (.Attribute o "append" apos) [e] [] p) pos) (sApp i m) := (ps_expr hbm hq).weak fun D σ H ⟨ρ, φ, E, q⟩ => by
  obtain ⟨ds, d, h1, h2, h3, h4⟩ := sApp_ok q.ns
  rw [h4] at q
  obtain ⟨a, e1, r⟩ := E.own h1
  generalize hfp : φ i = fp at r
  cases r with
  | @lst _ xs _ ea r =>
    refine ⟨_, e1, .inl ⟨rfl, _, SqL.of ea⟩, ρ, d, E.rd, h2, fun v H' s rv => ?_⟩
    have k : ∀ b o, ¬ φ i b → H' b = some o → upd H' a (.lst (xs ++ [v])) b = some o := fun b o n z => by
      have n' : b ≠ a := fun e => n (by rw [hfp]; exact e)
      rw [upd_ne n']; exact z
    have f : Firm H' (upd H' a (.lst (xs ++ [v]))) := ⟨fun b ys z => by rw [upd_ne (ne_of z (s _ _ ea) (by intro z; cases z))]; exact z, fun b o u z => by rw [upd_ne (ne_of z (s _ _ ea) (by intro z; cases z))]; exact z⟩
    have sb : ∀ b, b = a → φ i b ∨ H' b = none := fun b z => .inl (by rw [hfp]; exact z)
    refine ⟨a, xs, v, rfl, rfl, s _ _ ea, by rw [r.length]; exact h3, q _ _ _ (EnvOk.turn (E.same s) h1 e1 k (.lst upd_same (((r.mono (firm s)).append (Rps.one rv)).mono f)) sb fun b z => ?_) ((Ev.same s).trans (Ev.turn (K := X.K) k sb))⟩
    rw [hfp] at z
    have z : b = a := z
    subst z
    exact ⟨_, upd_same⟩
/-! ### what a loop walks: it stands whatever the slots' own things do -/
def Stay (K : PySem.W.Frag) (φ : Nat → Addr → Prop) (H : Hp) (v : V) (ds : List PyData) : Prop :=
  ∃ a xs, v = .ref a ∧ Rps K H xs ds ∧ (SqT K H a xs ∨ (Rd H a (.lst xs) ∧ ¬ ∃ j, φ j a) ∨ KL K a xs)
theorem Stay.mono {K : PySem.W.Frag} {H H' : Hp} {φ φ' : Nat → Addr → Prop} {v : V} {ds : List PyData} (h : Stay K φ H v ds) (f : Firm H H') (w : Ev H φ H' φ') : Stay K φ' H' v ds := by
  obtain ⟨a, xs, e, r, q⟩ := h
  refine ⟨a, xs, e, r.mono f, ?_⟩
  rcases q with q | ⟨q, n⟩ | q
  · exact .inl (f.sqt q)
  · refine .inr (.inl ⟨?_, fun ⟨j, z⟩ => ?_⟩)
    · rcases q with q | ⟨o, q⟩
      · exact .inl (w.st _ _ n q)
      · exact .inr ⟨o, w.st _ _ n q⟩
    · rcases w.sub j a z with z | z
      · exact n z
      · rcases q with q | ⟨o, q⟩ <;> (rw [z] at q; cases q)
  · exact .inr (.inr q)
theorem LA.mono {K : PySem.W.Frag} {H H' : Hp} {φ φ' : Nat → Addr → Prop} {a : Addr} {xs : List V} (g : (Rd H a (.lst xs) ∧ ¬ ∃ j, φ j a) ∨ KL K a xs) (w : Ev H φ H' φ') : (Rd H' a (.lst xs) ∧ ¬ ∃ j, φ' j a) ∨ KL K a xs := by
  rcases g with ⟨q, n⟩ | q
  · refine .inl ⟨?_, fun ⟨j, z⟩ => ?_⟩
    · rcases q with q | ⟨o, q⟩
      · exact .inl (w.st _ _ n q)
      · exact .inr ⟨o, w.st _ _ n q⟩
    · rcases w.sub j a z with z | z
      · exact n z
      · rcases q with q | ⟨o, q⟩ <;> (rw [z] at q; cases q)
  · exact .inr q
abbrev ML := Rho → Option (List PyData)
def tL (K : PySem.W.Frag) (B : Bd) (m : ML) : TE := fun σ H Q => ∃ ρ φ ds, EnvOk K B H σ ρ φ ∧ m ρ = some ds ∧ ∀ v H', Same H H' → Stay K φ H' v ds → Q v H'
abbrev PLm (X : Cx) (B : Bd) (e : Expr) (m : ML) : Prop := PE X e (tL X.K B m)
def mIt (m : ME) : ML := fun ρ => (m ρ).bind itemsOf
theorem pl_of (h : PEm X B.xo .fre e m) : PLm X B e (mIt m) := h.weak fun σ H Q ⟨ρ, φ, ds, E, q, z⟩ => by
  obtain ⟨d, q1, q2⟩ := Option.bind_eq_some_iff.mp q
  refine ⟨ρ, d, E.rd, q1, fun v H' s r => z v H' s ?_⟩
  rcases r with r | ⟨a, xs, es, e1, rfl, n, ha, r⟩
  · cases r with
    | lst e1 r => cases q2; exact ⟨_, _, rfl, r, .inr (.inl ⟨.inr ⟨_, e1⟩, fun ⟨j, z⟩ => by obtain ⟨o, q, so⟩ := (E.same s).there z; rw [e1] at q; cases q; exact so⟩)⟩
    | tup e1 r => cases q2; exact ⟨_, _, rfl, r, .inl e1⟩
    | _ => cases q2
  · cases q2
    exact ⟨_, _, e1, r, .inr (.inl ⟨.inl ha, fun ⟨j, z⟩ => by obtain ⟨o, q, so⟩ := E.there z; rw [n] at q; cases q⟩)⟩
def mItB (i : Nat) : ML := fun ρ => match ρ[i]? with
  | some (.b ds) => some ds
  | _ => none
theorem pl_b (i : Nat) {x : Str} (hN : X.N[i]? = some x := by rfl) (hv : Vis X.env.scope x := by first | exact Or.inl rfl | exact Or.inr (Or.inl rfl) | exact Or.inr (Or.inr rfl)) (hd : (x == ("__debug__" : Str)) = false := by decide)
    (hcd : (x == ("__classdict__" : Str)) = false := by decide) : PLm X B (.Name x pos) (mItB i) := (pe_var (i := i) hN hv hd hcd).weak fun σ H Q ⟨ρ, φ, ds, E, q, z⟩ => by
  unfold mItB at q
  split at q
  · rename_i es e1
    cases q
    have r := E.sl i _ e1
    generalize hs : σ[i]? = v at r
    cases r with | b q r _ => exact ⟨_, hs, z _ _ (Same.refl H) ⟨_, _, rfl, r, .inr q⟩⟩
  · cases q
/-- a list or a tuple, walked; its length is no more than the line -/
def iSeq (K : PySem.W.Frag) (tl : TE) : TI := fun σ H R => tl σ H fun x H1 => ∃ a xs, x = .ref a ∧ ((SqL K H1 a xs ∧ (xs.length ≤ sizeLine → R (Itl K a) H1)) ∨ (SqT K H1 a xs ∧ (xs.length ≤ sizeLine → R (Itt K a) H1)))
theorem pi_seq {tg l : Expr} {tl : TE} (hl : PE X l tl) : PI X tg l (iSeq X.K tl) := by
  refine ⟨fun pins s σ H R I h => ?_⟩
  refine thn (hl.run pins s σ H _ I h) fun v s1 ⟨x, H1, I1, r1, q1⟩ => ?_
  obtain ⟨a, xs, e, ⟨hq, q⟩ | ⟨hq, q⟩⟩ := q1
  · subst e
    cases r1
    obtain ⟨its, rv, p, hz⟩ := I1.list hq
    refine wpAny_pyIter_list p.isList ?_
    refine ⟨s1.heap.objs.size, [s1.heap.objs.size], _, _, H1, rfl, I1.kept (t' := s1.toks) fun b o e => Heap.get?_push_of_some _ e, turn_list a _, ⟨_, Heap.get?_push_size _ rfl, rfl, rfl⟩, fun b hb => ?_, q hz⟩
    have e : b = s1.heap.objs.size := by simpa using hb
    subst e
    exact I1.fpOk (Nat.le_refl _) (I1.hok.fresh (Nat.le_refl _))
  · subst e
    cases r1
    obtain ⟨its, rv, p, hz⟩ := I1.tuple hq
    refine wpAny_pyIter_tuple (show s1.heap.IsTuple a its.toArray from p) ?_
    refine ⟨s1.heap.objs.size, [s1.heap.objs.size], _, _, H1, rfl, I1.kept (t' := s1.toks) fun b o e => Heap.get?_push_of_some _ e, turn_tuple a _, ⟨_, Heap.get?_push_size _ rfl, rfl, rfl⟩, fun b hb => ?_, q hz⟩
    have e : b = s1.heap.objs.size := by simpa using hb
    subst e
    exact I1.fpOk (Nat.le_refl _) (I1.hok.fresh (Nat.le_refl _))
/-! ### for -/
def isO : Option Sl → Bool
  | some (.o _) => true
  | _ => false
theorem isO_no {s : Option Sl} (h : isO s = false) : ∀ ob, s ≠ some (.o ob) := fun ob e => by subst e; cases h
def forL (i : Nat) (body : MS) : List PyData → MS
  | [], ρ => .nx ρ
  | d :: ds, ρ => if isO ρ[i]? then .stuck else match body (ρ.set i (.d d)) with
    | .nx ρ' => forL i body ds ρ'
    | .ct ρ' => forL i body ds ρ'
    | .bk ρ' => .nx ρ'
    | o => o
def sFor (i : Nat) (src : ML) (body : MS) : MS := fun ρ => match src ρ with
  | some ds => forL i body ds ρ
  | none => .stuck
/-- between two turns -/
def TurnP (K : PySem.W.Frag) (B : Bd) (W : WX) (rk : Kd) (D : Ends) (i : Nat) (body : MS) (ds : List PyData) (n : Nat) (σ : L2.St) (H : Hp) : Prop :=
  ∃ ρ φ, EnvOk K B H σ ρ φ ∧ Post K B W rk D H φ (forL i body (ds.drop n) ρ)
theorem drop_cons {α : Type} {ds : List α} {n : Nat} {d : α} (h : ds[n]? = some d) : ds.drop n = d :: ds.drop (n + 1) := by
  obtain ⟨hl, e⟩ := List.getElem?_eq_some_iff.mp h
  rw [← e]
  exact List.drop_eq_getElem_cons hl
theorem turn_body {K : PySem.W.Frag} {D : Ends} {i n : Nat} {body : MS} {ds : List PyData} {d : PyData} {σ : L2.St} {H H2 : Hp} {v : V} {ρ : Rho} {φ : Nat → Addr → Prop} {N : L2.St → Hp → Prop}
    (E : EnvOk K B H σ ρ φ) (q : Post K B W rk D H φ (forL i body (ds.drop n) ρ)) (hd : ds[n]? = some d) (r : Rp K H v d) (hN : ∀ σ H ρ φ', EnvOk K B H σ ρ φ' → Ev H2 φ H φ' → Post K B W rk D H φ' (forL i body (ds.drop (n + 1)) ρ) → N σ H) (e : H2 = H) :
    tS K B W rk body { D with nx := N, ct := N, bk := D.nx } (σ.set i (some v)) H := by
  subst e
  rw [drop_cons hd] at q
  unfold forL at q
  split at q
  · exact q.elim
  · rename_i hn
    have hn : isO ρ[i]? = false := by simpa using hn
    refine ⟨_, φ, E.setD (isO_no hn) r, ?_⟩
    cases h : body (ρ.set i (.d d)) with
    | nx ρ' => rw [h] at q; exact fun σ' H' φ' E' w => hN σ' H' ρ' φ' E' w (q.mono w)
    | ct ρ' => rw [h] at q; exact fun σ' H' φ' E' w => hN σ' H' ρ' φ' E' w (q.mono w)
    | bk ρ' => rw [h] at q; exact q
    | rt d ρ' => rw [h] at q; exact q
    | ex c ρ' => rw [h] at q; exact q
    | stuck => rw [h] at q; exact q
theorem sm_for {i : Nat} {tg iter : Expr} {src : ML} {mb : MS} (hp : PassesOwn (model X.prog X.w) X.A X.env X.xe) (hc : X.calm = true) (hi : PLm X B iter src) (hg : PG X tg (gName i)) (hb : PSsm X B W rk body mb)
    (hs : ∀ x, foldedSetIterable iter X.env x = pure x := by intro _; rfl) : PSm X B W rk (.For tg iter body [] pos) (sFor i src mb) := (ps_for hp hc (pi_seq hi) hg hb hs).weak fun D σ H ⟨ρ, φ, E, q⟩ => by
  unfold sFor at q
  cases h : src ρ with
  | none => rw [h] at q; exact q.elim
  | some ds =>
    rw [h] at q
    refine ⟨ρ, φ, ds, E, h, fun v H1 s st => ?_⟩
    obtain ⟨a, xs, rfl, r, hq⟩ := id st
    -- between two turns: the slots, what is walked, what is left
    have all : ∀ (G : Hp → (Nat → Addr → Prop) → Prop), G H1 φ → (∀ H φ H' φ', G H φ → Firm H H' → Ev H φ H' φ' → G H' φ') →
        let Pv : Nat → L2.St → Hp → Prop := fun n σ H => ∃ ρ φ, EnvOk X.K B H σ ρ φ ∧ (Firm H1 H ∧ G H φ) ∧ Post X.K B W rk D H φ (forL i mb (ds.drop n) ρ)
        Pv 0 σ H1 ∧ (∀ σ H, Pv xs.length σ H → D.nx σ H) ∧ ∀ n x σ H, xs[n]? = some x → Pv n σ H → gName i x σ H fun σ2 H2 => tS X.K B W rk mb { D with nx := Pv (n + 1), ct := Pv (n + 1), bk := D.nx } σ2 H2 := fun G g0 gm => by
      refine ⟨⟨ρ, φ, E.same s, ⟨Firm.refl _, g0⟩, q.mono (Ev.same s)⟩, fun σ H ⟨ρ, φ, E, _, q⟩ => ?_, fun n x σ H hx ⟨ρ, φ, E, ⟨f, g⟩, q⟩ => ?_⟩
      · rw [List.drop_eq_nil_of_le (by rw [r.length]; exact Nat.le_refl _)] at q
        exact q σ H φ E (Ev.refl _ _)
      · obtain ⟨d, hd, rd⟩ := (r.mono f).get' hx
        exact turn_body E q hd rd (fun σ' H' ρ' φ' E' w q' => ⟨ρ', φ', E', ⟨f.trans (w.firm E), gm _ _ _ _ g (w.firm E) w⟩, q'⟩) rfl
    refine ⟨a, xs, rfl, ?_⟩
    rcases hq with hq | hq
    · obtain ⟨P0, fin, turn⟩ := all (fun _ _ => True) trivial (fun _ _ _ _ _ _ _ => trivial)
      exact .inr ⟨hq, fun _ => for_tup (K := X.K) (a := a) (xs := xs) _ P0 (fun n σ H _ ⟨ρ, φ, E, ⟨f, _⟩, _⟩ => f.sqt hq) turn fin⟩
    · obtain ⟨P0, fin, turn⟩ := all (fun H φ => (Rd H a (.lst xs) ∧ ¬ ∃ j, φ j a) ∨ KL X.K a xs) hq (fun H φ H' φ' g f w => LA.mono g w)
      exact .inl ⟨hq.imp (fun z => z.1) id, fun _ => for_list (K := X.K) (a := a) (xs := xs) _ P0 (fun n σ H _ ⟨ρ, φ, E, ⟨f, g⟩, _⟩ => g.imp (fun z => z.1) id) turn fin⟩
end
end PL

namespace PL
open PySem PySem.Spec PyProof.Rows L2
section
variable {X : Cx} {B : Bd} {W : WX} {rk : Kd} {st : Stmt} {rest body els : List Stmt} {e a b : Expr} {m ma mb : ME} {mt : MT} {s1 s2 : MS} {k k1 k2 : Kd} {pos p : Pos}
/-! ### for over a range -/
def rngD (lo : Int) (n : Nat) : List PyData := (List.range n).map fun (j : Nat) => .int (lo + (j : Int))
theorem rngD_get {lo : Int} {n j : Nat} (h : j < n) : (rngD lo n)[j]? = some (.int (lo + (j : Int))) := by
  unfold rngD
  rw [List.getElem?_map, List.getElem?_range h]
  rfl
theorem rngD_len {lo : Int} {n : Nat} : (rngD lo n).length = n := by unfold rngD; rw [List.length_map, List.length_range]
def mR1 (m : ME) : ML := fun ρ => match m ρ with
  | some (.int j) => if j < 2 ^ 62 ∧ -(2 ^ 62) ≤ j then some (rngD 0 j.toNat) else none
  | _ => none
def mR2 (ma mb : ME) : ML := fun ρ => match ma ρ, mb ρ with
  | some (.int i), some (.int j) => if (i < 2 ^ 62 ∧ -(2 ^ 62) ≤ i) ∧ j < 2 ^ 62 ∧ -(2 ^ 62) ≤ j then some (rngD i (j - i).toNat) else none
  | _, _ => none
theorem sm_forR_core {i : Nat} {D : Ends} {lo : Int} {n : Nat} {σ : L2.St} {H : Hp} {ρ : Rho} {φ : Nat → Addr → Prop} {mb : MS} (E : EnvOk X.K B H σ ρ φ) (q : Post X.K B W rk D H φ (forL i mb (rngD lo n) ρ)) :
    ∃ Wi : Nat → Nat → L2.St → Hp → Prop, (∃ m, Wi 0 m σ H) ∧ ∀ j m σ H, Wi j m σ H →
      ((Itr lo n).stop j H ∧ D.nx σ H) ∨ ((Itr lo n).go j H ∧ ∃ N : L2.St → Hp → Prop, (∀ σ' H', N σ' H' → ∃ m', m' < m ∧ Wi (j + 1) m' σ' H') ∧ ∀ x H', (Itr lo n).yld j H x H' → gName i x σ H' fun σ2 H2 => tS X.K B W rk mb { D with nx := N, ct := N, bk := D.nx } σ2 H2) := by
  refine for_range (lo := lo) (n := n) (fun j σ H => ∃ ρ φ, EnvOk X.K B H σ ρ φ ∧ Post X.K B W rk D H φ (forL i mb ((rngD lo n).drop j) ρ)) ⟨ρ, φ, E, q⟩ (fun j σ H hj ⟨ρ, φ, E, q⟩ => ?_) fun σ H ⟨ρ, φ, E, q⟩ => ?_
  · exact turn_body E q (rngD_get hj) (.int _) (fun σ' H' ρ' φ' E' w q' => ⟨ρ', φ', E', q'⟩) rfl
  · rw [List.drop_eq_nil_of_le (by rw [rngD_len]; exact Nat.le_refl _)] at q
    exact q σ H φ E (Ev.refl _ _)
theorem sm_forR1 {i : Nat} {tg : Expr} {mb : MS} (hp : PassesOwn (model X.prog X.w) X.A X.env X.xe) (hc : X.calm = true) (hg : Gl X "range") (hm : X.mg "range" = none) (ha : PEm X B.xo k a ma) (ht : PG X tg (gName i)) (hb : PSsm X B W rk body mb)
    (hs : starEach [a] X.env = [(false, eval a X.env)] := by rfl) (hf : ∀ x, foldedSetIterable (.Call (.Name "range" p) [a] [] pos) X.env x = pure x := by intro _; rfl) {fpos : Pos} : PSm X B W rk (.For tg (.Call (.Name "range" p) [a] [] pos) body [] fpos) (sFor i (mR1 ma) mb) :=
  (ps_for hp hc (pi_range1 hg hm (pa_cons ha pa_nil hs) hs) ht hb hf).weak fun D σ H ⟨ρ, φ, E, q⟩ => by
    unfold sFor mR1 at q
    cases h : ma ρ with
    | none => rw [h] at q; exact q.elim
    | some d =>
      rw [h] at q
      cases d with
      | int j =>
        simp only at q
        split at q
        · rename_i es e1
          obtain ⟨c, rfl⟩ := some_if e1
          refine ⟨ρ, _, E.rd, h, fun v H1 s r => ⟨j, by rw [r.toAny.int], c.2, c.1, sm_forR_core (E.same s) (q.mono (Ev.same s))⟩⟩
        · exact q.elim
      | _ => exact q.elim
theorem sm_forR2 {i : Nat} {tg : Expr} {mc : MS} (hp : PassesOwn (model X.prog X.w) X.A X.env X.xe) (hc : X.calm = true) (hg : Gl X "range") (hm : X.mg "range" = none) (ha : PEm X B.xo k1 a ma) (hb' : PEm X B.xo k2 b mb) (ht : PG X tg (gName i)) (hb : PSsm X B W rk body mc)
    (hs : starEach [a, b] X.env = [(false, eval a X.env), (false, eval b X.env)] := by rfl) (hs2 : starEach [b] X.env = [(false, eval b X.env)] := by rfl) (hf : ∀ x, foldedSetIterable (.Call (.Name "range" p) [a, b] [] pos) X.env x = pure x := by intro _; rfl) {fpos : Pos} :
    PSm X B W rk (.For tg (.Call (.Name "range" p) [a, b] [] pos) body [] fpos) (sFor i (mR2 ma mb) mc) :=
  (ps_for hp hc (pi_range2 hg hm (pa_cons ha (pa_cons hb' pa_nil hs2) (by rw [hs, hs2])) hs hs2) ht hb hf).weak fun D σ H ⟨ρ, φ, E, q⟩ => by
    unfold sFor mR2 at q
    split at q
    · rename_i es e1
      split at e1
      · rename_i i j h1 h2
        obtain ⟨c, rfl⟩ := some_if e1
        refine ⟨ρ, _, E.rd, h1, fun v H1 s r => ⟨ρ, _, E.rd.mono s, h2, fun u H2 s2 r2 => ⟨_, _, by rw [r.toAny.int, r2.toAny.int], ⟨c.1.2, c.1.1, c.2.2, c.2.1⟩, sm_forR_core ((E.same s).same s2) (q.mono ((Ev.same s).trans (Ev.same s2)))⟩⟩⟩
      · cases e1
    · exact q.elim
/-! ### for over zip of two lists, of two tuples -/
def forZ (i j : Nat) (body : MS) : List PyData → List PyData → MS
  | d :: ds, c :: cs, ρ => if isO ρ[i]? || isO ρ[j]? then .stuck else match body ((ρ.set i (.d d)).set j (.d c)) with
    | .nx ρ' => forZ i j body ds cs ρ'
    | .ct ρ' => forZ i j body ds cs ρ'
    | .bk ρ' => .nx ρ'
    | o => o
  | _, _, ρ => .nx ρ
/-- what is zipped: two lists or two tuples, of one length -/
abbrev MZ := Rho → Option (Bool × List PyData)
def tZ (K : PySem.W.Frag) (B : Bd) (m : MZ) : TE := fun σ H Q => ∃ ρ φ t ds, EnvOk K B H σ ρ φ ∧ m ρ = some (t, ds) ∧ ∀ a xs H', Same H H' → Rps K H' xs ds → (if t = true then SqT K H' a xs else (Rd H' a (.lst xs) ∧ ¬ ∃ j, φ j a) ∨ KL K a xs) → Q (.ref a) H'
abbrev PZm (X : Cx) (B : Bd) (e : Expr) (m : MZ) : Prop := PE X e (tZ X.K B m)
def mZ (m : ME) : MZ := fun ρ => match m ρ with
  | some (.list ds) => some (false, ds)
  | some (.tuple ds) => some (true, ds)
  | _ => none
theorem pz_of (h : PEm X B.xo .fre e m) : PZm X B e (mZ m) := h.weak fun σ H Q ⟨ρ, φ, t, ds, E, q, z⟩ => by
  unfold mZ at q
  split at q
  · rename_i es h1
    cases q
    refine ⟨ρ, _, E.rd, h1, fun v H' s r => ?_⟩
    rcases r with r | ⟨a, xs, es, rfl, e2, n, ha, r⟩
    · cases r with
      | lst e1 r => exact z _ _ H' s r (by simp only [if_neg Bool.false_ne_true]; exact .inl ⟨.inr ⟨_, e1⟩, fun ⟨j, z⟩ => by obtain ⟨o, q, so⟩ := (E.same s).there z; rw [e1] at q; cases q; exact so⟩)
    · cases e2
      exact z _ _ H' s r (by simp only [if_neg Bool.false_ne_true]; exact .inl ⟨.inl ha, fun ⟨j, z⟩ => by obtain ⟨o, q, so⟩ := E.there z; rw [n] at q; cases q⟩)
  · rename_i es h1
    cases q
    refine ⟨ρ, _, E.rd, h1, fun v H' s r => ?_⟩
    rcases r with r | ⟨a, xs, es, rfl, e2, n, ha, r⟩
    · cases r with
      | tup e1 r => exact z _ _ H' s r (by simp only [if_true]; exact e1)
    · cases e2
  · cases q
def mZB (i : Nat) : MZ := fun ρ => match ρ[i]? with
  | some (.b ds) => some (false, ds)
  | _ => none
theorem pz_b (i : Nat) {x : Str} (hN : X.N[i]? = some x := by rfl) (hv : Vis X.env.scope x := by first | exact Or.inl rfl | exact Or.inr (Or.inl rfl) | exact Or.inr (Or.inr rfl)) (hd : (x == ("__debug__" : Str)) = false := by decide)
    (hcd : (x == ("__classdict__" : Str)) = false := by decide) : PZm X B (.Name x pos) (mZB i) := (pe_var (i := i) hN hv hd hcd).weak fun σ H Q ⟨ρ, φ, t, ds, E, q, z⟩ => by
  unfold mZB at q
  split at q
  · rename_i es e1
    cases q
    have r := E.sl i _ e1
    generalize hs : σ[i]? = v at r
    cases r with | b q r _ => exact ⟨_, hs, z _ _ _ (Same.refl H) r (by simp only [if_neg Bool.false_ne_true]; exact q)⟩
  · cases q
def sForZ (i j : Nat) (ma mb : MZ) (body : MS) : MS := fun ρ => match ma ρ, mb ρ with
  | some (t, ds), some (u, es) => if t = u ∧ ds.length = es.length then forZ i j body ds es ρ else .stuck
  | _, _ => .stuck
theorem turn_bodyZ {K : PySem.W.Frag} {D : Ends} {i j n : Nat} {body : MS} {ds es : List PyData} {d c : PyData} {σ : L2.St} {H : Hp} {v u : V} {ρ : Rho} {φ : Nat → Addr → Prop} {N : L2.St → Hp → Prop}
    (E : EnvOk K B H σ ρ φ) (q : Post K B W rk D H φ (forZ i j body (ds.drop n) (es.drop n) ρ)) (hd : ds[n]? = some d) (hc : es[n]? = some c) (r : Rp K H v d) (r2 : Rp K H u c) (hij : i ≠ j)
    (hN : ∀ σ H' ρ φ', EnvOk K B H' σ ρ φ' → Ev H φ H' φ' → Post K B W rk D H' φ' (forZ i j body (ds.drop (n + 1)) (es.drop (n + 1)) ρ) → N σ H') :
    tS K B W rk body { D with nx := N, ct := N, bk := D.nx } ((σ.set i (some v)).set j (some u)) H := by
  rw [drop_cons hd, drop_cons hc] at q
  unfold forZ at q
  split at q
  · exact q.elim
  · rename_i hn
    have hn' : isO ρ[i]? = false ∧ isO ρ[j]? = false := by simpa using hn
    have hn2 : isO (ρ.set i (.d d))[j]? = false := by rw [List.getElem?_set_ne hij]; exact hn'.2
    refine ⟨_, φ, (E.setD (isO_no hn'.1) r).setD (isO_no hn2) r2, ?_⟩
    cases h : body ((ρ.set i (.d d)).set j (.d c)) with
    | nx ρ' => rw [h] at q; exact fun σ' H' φ' E' w => hN σ' H' ρ' φ' E' w (q.mono w)
    | ct ρ' => rw [h] at q; exact fun σ' H' φ' E' w => hN σ' H' ρ' φ' E' w (q.mono w)
    | bk ρ' => rw [h] at q; exact q
    | rt d ρ' => rw [h] at q; exact q
    | ex c ρ' => rw [h] at q; exact q
    | stuck => rw [h] at q; exact q
theorem sm_forZ {i j : Nat} {e2 : Expr} {ma mb : MZ} {mc : MS} {elts : List Expr} {kk : Nat} {tpos fpos : Pos} (hp : PassesOwn (model X.prog X.w) X.A X.env X.xe) (hc : X.calm = true) (hg : Gl X "zip") (hm : X.mg "zip" = none) (ha : PZm X B e ma) (hb' : PZm X B e2 mb)
    (ht : PG X (.Tuple elts kk tpos) (gTup X.K 2 (gCons (gName i) (gCons (gName j) gNil)))) (hb : PSsm X B W rk body mc) (hij : i ≠ j)
    (hs : starEach [e, e2] X.env = (false, eval e X.env) :: starEach [e2] X.env := by rfl) (hs2 : starEach [e2] X.env = [(false, eval e2 X.env)] := by rfl) (hf : ∀ x, foldedSetIterable (.Call (.Name "zip" p) [e, e2] [] pos) X.env x = pure x := by intro _; rfl) :
    PSm X B W rk (.For (.Tuple elts kk tpos) (.Call (.Name "zip" p) [e, e2] [] pos) body [] fpos) (sForZ i j ma mb mc) :=
  (ps_for hp hc (RZ.pi_zipA hg hm (pa_cons ha (pa_cons hb' pa_nil hs2) hs) hs (by rw [hs2]; rfl)) ht hb hf).weak fun D σ H ⟨ρ, φ, E, q⟩ => by
    unfold sForZ at q
    split at q
    · rename_i t ds u es h1 h2
      split at q
      · rename_i hl
        obtain ⟨rfl, hl⟩ := hl
        refine ⟨ρ, φ, t, ds, E, h1, fun a xs H1 s r hx => ⟨ρ, φ, t, es, E.same s, h2, fun b ys H2 s2 r2 hy => ?_⟩⟩
        have r := r.mono (firm s2)
        have E2 := (E.same s).same s2
        have q := q.mono ((Ev.same s).trans (Ev.same s2))
        have all : ∀ (G : Hp → (Nat → Addr → Prop) → Prop), G H2 φ → (∀ H φ H' φ', G H φ → Firm H H' → Ev H φ H' φ' → G H' φ') →
            let Pv : Nat → L2.St → Hp → Prop := fun n σ H => ∃ ρ φ, EnvOk X.K B H σ ρ φ ∧ (Firm H2 H ∧ G H φ) ∧ Post X.K B W rk D H φ (forZ i j mc (ds.drop n) (es.drop n) ρ)
            Pv 0 σ H2 ∧ (∀ σ H, Pv xs.length σ H → D.nx σ H) ∧ ∀ (n : Nat) (x y : V) (T : Addr) (σ : L2.St) (H : Hp), xs[n]? = some x → ys[n]? = some y → Pv n σ H → H T = none → gTup X.K 2 (gCons (gName i) (gCons (gName j) gNil)) (.ref T) σ (upd H T (.tup [x, y])) fun σ2 H2 => tS X.K B W rk mc { D with nx := Pv (n + 1), ct := Pv (n + 1), bk := D.nx } σ2 H2 := fun G g0 gm => by
          refine ⟨⟨ρ, φ, E2, ⟨Firm.refl _, g0⟩, q⟩, fun σ H ⟨ρ, φ, E, _, q⟩ => ?_, fun n x y T σ H hx hy ⟨ρ, φ, E, ⟨f, g⟩, q⟩ hT => ?_⟩
          · rw [List.drop_eq_nil_of_le (by rw [r.length]; exact Nat.le_refl _)] at q
            unfold forZ at q
            exact q σ H φ E (Ev.refl _ _)
          · obtain ⟨d, hd, rd⟩ := (r.mono f).get' hx
            obtain ⟨c, hc, rc⟩ := (r2.mono f).get' hy
            have sT := same_new hT (.tup [x, y])
            refine ⟨T, [x, y], rfl, .of upd_same, rfl, x, [y], rfl, y, [], rfl, rfl, ?_⟩
            exact turn_bodyZ (E.same sT) (q.mono (Ev.same sT)) hd hc (rd.mono (firm sT)) (rc.mono (firm sT)) hij (fun σ' H' ρ' φ' E' w q' => ⟨ρ', φ', E', ⟨(f.trans (firm sT)).trans (w.firm (E.same sT)), gm _ _ _ _ (gm _ _ _ _ g (firm sT) (Ev.same sT)) (w.firm (E.same sT)) w⟩, q'⟩)
        have hlen : xs.length = ys.length := by rw [r.length, r2.length]; exact hl
        refine ⟨a, b, xs, ys, rfl, ?_⟩
        cases t with
        | true =>
          have hx : SqT X.K H1 a xs := by simpa using hx
          have hy : SqT X.K H2 b ys := by simpa using hy
          have hx := (firm s2).sqt hx
          obtain ⟨P0, fin, turn⟩ := all (fun _ _ => True) trivial (fun _ _ _ _ _ _ _ => trivial)
          exact .inr ⟨hx, hy, RZ.for_zipT (K := X.K) (a := a) (b := b) hlen _ P0 (fun n σ H ⟨ρ, φ, E, ⟨f, _⟩, _⟩ => ⟨f.sqt hx, f.sqt hy⟩) turn fin⟩
        | false =>
          have hx : (Rd H1 a (.lst xs) ∧ ¬ ∃ j, φ j a) ∨ KL X.K a xs := by simpa using hx
          have hy : (Rd H2 b (.lst ys) ∧ ¬ ∃ j, φ j b) ∨ KL X.K b ys := by simpa using hy
          have hx := LA.mono hx (Ev.same s2)
          obtain ⟨P0, fin, turn⟩ := all (fun H φ => ((Rd H a (.lst xs) ∧ ¬ ∃ j, φ j a) ∨ KL X.K a xs) ∧ ((Rd H b (.lst ys) ∧ ¬ ∃ j, φ j b) ∨ KL X.K b ys)) ⟨hx, hy⟩ (fun H φ H' φ' g f w => ⟨LA.mono g.1 w, LA.mono g.2 w⟩)
          exact .inl ⟨hx.imp (fun z => z.1) id, hy.imp (fun z => z.1) id, RZ.for_zipL (K := X.K) (a := a) (b := b) hlen _ P0 (fun n σ H ⟨ρ, φ, E, ⟨f, g⟩, _⟩ => ⟨g.1.imp (fun z => z.1) id, g.2.imp (fun z => z.1) id⟩) turn fin⟩
      · exact q.elim
    · exact q.elim
/-! ### while -/
def whileL (t : MT) (body : MS) : Nat → MS
  | 0, _ => .stuck
  | n + 1, ρ => match t ρ with
    | some true => match body ρ with
      | .nx ρ' => whileL t body n ρ'
      | .ct ρ' => whileL t body n ρ'
      | .bk ρ' => .nx ρ'
      | o => o
    | some false => .nx ρ
    | none => .stuck
theorem sm_while {c : Expr} {mb : MS} (n : Nat) (hp : PassesOwn (model X.prog X.w) X.A X.env X.xe) (hc : PTm X B.xo c mt) (hb : PSsm X B W rk body mb) : PSm X B W rk (.While c body [] pos) (whileL mt mb n) := (ps_while hp hc hb).weak fun D σ H ⟨ρ, φ, E, q⟩ => by
  refine ⟨fun m σ H => ∃ ρ φ, EnvOk X.K B H σ ρ φ ∧ Post X.K B W rk D H φ (whileL mt mb m ρ), ⟨n, ρ, φ, E, q⟩, fun m σ H ⟨ρ, φ, E, q⟩ => ?_⟩
  cases m with
  | zero => exact q.elim
  | succ m =>
    unfold whileL at q
    cases h : mt ρ with
    | none => rw [h] at q; exact q.elim
    | some b =>
      rw [h] at q
      refine ⟨ρ, b, E.rd, h, fun H1 s => ?_⟩
      cases b with
      | false => exact q σ H1 φ (E.same s) (Ev.same s)
      | true =>
        have q := q.mono (Ev.same s)
        refine ⟨fun σ H => ∃ ρ φ, EnvOk X.K B H σ ρ φ ∧ Post X.K B W rk D H φ (whileL mt mb m ρ), fun σ' H' z => ⟨m, Nat.lt_succ_self m, z⟩, ρ, φ, E.same s, ?_⟩
        cases h2 : mb ρ with
        | nx ρ' => simp only [h2] at q; exact fun σ' H' φ' E' w => ⟨ρ', φ', E', q.mono w⟩
        | ct ρ' => simp only [h2] at q; exact fun σ' H' φ' E' w => ⟨ρ', φ', E', q.mono w⟩
        | bk ρ' => simp only [h2] at q; exact q
        | rt d ρ' => simp only [h2] at q; exact q
        | ex c ρ' => simp only [h2] at q; exact q
        | stuck => simp only [h2] at q; exact q
end
end PL

namespace PL
open PySem PySem.Spec PyProof.Rows L2
/-! ### comprehensions -/
section
variable {X : Cx} {xo : XO} {e a b elt tg iter : Expr} {ifs : List Expr} {m ma mb me : ME} {mt : MT} {k k1 k2 : Kd} {pos p : Pos} {scope : Scope} {i : Nat} {x : Str}
def compL (i : Nat) (t : MT) (me : ME) (ρ : Rho) : List PyData → Option (List PyData)
  | [] => some []
  | d :: ds => (t (ρ.set i (.d d))).bind fun b => match b with
    | true => (me (ρ.set i (.d d))).bind fun y => (compL i t me ρ ds).map (y :: ·)
    | false => compL i t me ρ ds
def mComp (i : Nat) (src : ML) (t : MT) (me : ME) : ME := fun ρ => (src ρ).bind fun ds => (compL i t me ρ ds).map .list
def mYes : MT := fun _ => some true
abbrev PTsm (X : Cx) (xo : XO) (ifs : List Expr) (m : MT) : Prop := PTs X ifs (tT X.K xo m)
theorem ptm_nil : PTsm X xo [] mYes := pts_nil.weak fun σ H Q ⟨ρ, b, R, q, z⟩ => by cases q; exact z H (Same.refl H)
theorem ptm_one {c : Expr} (h : PTm X xo c mt) : PTsm X xo [c] mt := pts_one h
theorem RdOk.wipe {K : PySem.W.Frag} {H : Hp} {σ : L2.St} {ρ : Rho} {v : V} {d : PyData} (R : RdOk K xo H σ ρ) (hl : i < σ.length) (r : Rp K H v d) : RdOk K xo H ((L2.wipe σ [i]).set i (some v)) (ρ.set i (.d d)) := by
  have e : (L2.wipe σ [i]).set i (some v) = σ.set i (some v) := by
    show (σ.set i none).set i (some v) = _
    rw [List.set_set]
  rw [e]
  refine ⟨fun j s q => ?_, R.xo.set i _ (fun c z => by cases z)⟩
  by_cases ej : i = j
  · subst ej
    rw [List.getElem?_set_self hl]
    have hρ : i < ρ.length := by
      have := (List.getElem?_eq_some_iff.mp q).1
      simpa using this
    rw [List.getElem?_set_self hρ] at q
    cases q
    exact .d r
  · rw [List.getElem?_set_ne ej] at q ⊢
    exact R.rd j s q
/-- between two turns of a comprehension -/
def CpInv (K : PySem.W.Frag) (σ : L2.St) (i : Nat) (t : MT) (me : ME) (ρ : Rho) (ds : List PyData) (H1 : Hp) (D : Addr) (Q : VK) (n : Nat) (H : Hp) : Prop :=
  Same H1 H ∧ ∃ acc dacc rest, H D = some (.lst acc) ∧ Rps K H acc dacc ∧ acc.length ≤ n ∧ compL i t me ρ (ds.drop n) = some rest ∧ ∀ H' xs, Same H1 H' → H' D = some (.lst xs) → Rps K H' xs (dacc ++ rest) → Q (.ref D) H'
theorem Same.updL {H H' : Hp} {D : Addr} {acc : List V} {o : HO} (n : H D = none) (s : Same H H') : Same H (upd H' D o) := fun b u q => by rw [upd_ne (ne_of_none q n)]; exact s b u q
theorem Firm.updL {H : Hp} {D : Addr} {acc ys : List V} (e : H D = some (.lst acc)) : Firm H (upd H D (.lst ys)) := ⟨fun b xs q => by rw [upd_ne (ne_of q e (by intro z; cases z))]; exact q, fun b o u q => by rw [upd_ne (ne_of q e (by intro z; cases z))]; exact q⟩
theorem cp_turn {K : PySem.W.Frag} {σ : L2.St} {ρ : Rho} {ds : List PyData} {d : PyData} {H1 H : Hp} {D : Addr} {Q : VK} {n : Nat} {v : V} (hl : i < σ.length) (R : RdOk K xo H1 σ ρ) (nD : H1 D = none) (p : CpInv K σ i mt me ρ ds H1 D Q n H) (hd : ds[n]? = some d) (r : Rp K H v d) (hz : n < sizeLine) :
    gName i v (L2.wipe σ [i]) H fun σ2 H2 => L2.wipe σ2 [i] = L2.wipe σ [i] ∧ tT K xo mt σ2 H2 fun b H3 =>
      if b = true then tE K xo .per me σ2 H3 fun y H4 => ∃ acc, H4 D = some (.lst acc) ∧ acc.length < sizeLine ∧ CpInv K σ i mt me ρ ds H1 D Q (n + 1) (upd H4 D (.lst (acc ++ [y]))) else CpInv K σ i mt me ρ ds H1 D Q (n + 1) H3 := by
  obtain ⟨s, acc, dacc, rest, e, ra, hn, hc, z⟩ := p
  rw [drop_cons hd] at hc
  unfold compL at hc
  obtain ⟨b, h1, hc⟩ := Option.bind_eq_some_iff.mp hc
  have R2 := (R.mono s).wipe (i := i) hl r
  refine ⟨?_, ρ.set i (.d d), b, R2, h1, fun H3 s3 => ?_⟩
  · show ((σ.set i none).set i (some v)).set i none = σ.set i none
    rw [List.set_set, List.set_set]
  cases b with
  | true =>
    obtain ⟨y, h2, hc⟩ := Option.bind_eq_some_iff.mp hc
    obtain ⟨rest', h3, rfl⟩ := Option.map_eq_some_iff.mp hc
    refine iteT ⟨ρ.set i (.d d), y, R2.mono s3, h2, fun u H4 s4 r4 => ?_⟩
    have e4 := s4 _ _ (s3 _ _ e)
    have f4 := Firm.updL (ys := acc ++ [u]) e4
    refine ⟨acc, e4, Nat.lt_of_le_of_lt hn hz, Same.updL (acc := acc) nD ((s.trans s3).trans s4), acc ++ [u], dacc ++ [y], rest', upd_same, ?_, ?_, h3, fun H' xs s' e' r' => z H' xs s' e' ?_⟩
    · exact ((ra.mono (firm (s3.trans s4))).append (Rps.one r4)).mono f4
    · rw [List.length_append, List.length_singleton]; omega
    · rw [List.append_assoc] at r'; exact r'
  | false =>
    refine iteF ⟨s.trans s3, acc, dacc, rest, s3 _ _ e, ra.mono (firm s3), Nat.le_succ_of_le hn, hc, z⟩
theorem tLc_of {σ : L2.St} (hlen : i < σ.length) {H : Hp} {Q : VK} (hw : tE X.K xo .new (mComp i (mIt m) mt me) σ H Q) : tLc (iSeq X.K (tE X.K xo k m)) (gName i) (tT X.K xo mt) (tE X.K xo .per me) [i] σ H Q := by
  obtain ⟨ρ, d, R, q, z⟩ := hw
  obtain ⟨ds, q1, q2'⟩ := Option.bind_eq_some_iff.mp q
  obtain ⟨ys, q2, rfl⟩ := Option.map_eq_some_iff.mp q2'
  obtain ⟨d0, q0, q1⟩ := Option.bind_eq_some_iff.mp q1
  refine ⟨ρ, d0, R, q0, fun v H1 s1 r1 => ?_⟩
  obtain ⟨a, xs, rfl, hq, rx⟩ := r1.toAny.items q1
  refine ⟨a, xs, rfl, ?_⟩
  have start : ∀ D, H1 D = none → CpInv X.K σ i mt me ρ ds H1 D Q 0 (upd H1 D (.lst [])) := fun D nD => ⟨Same.updL (acc := []) nD (Same.refl H1), [], [], ys, upd_same, .nil, Nat.le_refl _, q2, fun H' xs s' e' r' => z _ _ (s1.trans s') ⟨D, xs, _, rfl, rfl, s1.free nD, e', r'⟩⟩
  have fin : ∀ D H', CpInv X.K σ i mt me ρ ds H1 D Q xs.length H' → Q (.ref D) H' := fun D H' ⟨s', acc, dacc, rest, e', ra, _, hc', z'⟩ => by
    rw [List.drop_eq_nil_of_le (by rw [rx.length]; exact Nat.le_refl _)] at hc'
    cases hc'
    exact z' H' acc s' e' (by rw [List.append_nil]; exact ra)
  rcases hq with hq | hq
  · exact .inl ⟨hq, fun hz D nD => lc_list (K := X.K) (a := a) (xs := xs) (CpInv X.K σ i mt me ρ ds H1 D Q) (start D nD) (fun n H' _ p => p.1.seq hq) (fun n y H' hy p => by
      obtain ⟨d, hd, rd⟩ := (rx.mono (firm p.1)).get' hy
      exact cp_turn hlen (R.mono s1) nD p hd rd (Nat.lt_of_lt_of_le (List.getElem?_eq_some_iff.mp hy).1 hz)) (fin D)⟩
  · exact .inr ⟨hq, fun hz D nD => lc_tup (K := X.K) (a := a) (xs := xs) (CpInv X.K σ i mt me ρ ds H1 D Q) (start D nD) (fun n H' _ p => (firm p.1).sqt hq) (fun n y H' hy p => by
      obtain ⟨d, hd, rd⟩ := (rx.mono (firm p.1)).get' hy
      exact cp_turn hlen (R.mono s1) nD p hd rd (Nat.lt_of_lt_of_le (List.getElem?_eq_some_iff.mp hy).1 hz)) (fin D)⟩
/-- over a range -/
def mR1c (m : ME) : ML := fun ρ => match m ρ with
  | some (.int j) => if j ≤ 16000000 ∧ -16000000 ≤ j then some (rngD 0 j.toNat) else none
  | _ => none
theorem tLcR_of {σ : L2.St} (hlen : i < σ.length) {H : Hp} {Q : VK} (hw : tE X.K xo .new (mComp i (mR1c m) mt me) σ H Q) : tLc (iRng1 (tCons (tE X.K xo k m) tNil)) (gName i) (tT X.K xo mt) (tE X.K xo .per me) [i] σ H Q := by
  obtain ⟨ρ, d, R, q, z⟩ := hw
  obtain ⟨ds, q1, q2'⟩ := Option.bind_eq_some_iff.mp q
  obtain ⟨ys, q2, rfl⟩ := Option.map_eq_some_iff.mp q2'
  unfold mR1c at q1
  split at q1
  · rename_i j h1
    obtain ⟨c, rfl⟩ := some_if q1
    refine ⟨ρ, _, R, h1, fun v H1 s1 r1 => ⟨j, by rw [r1.toAny.int], by omega, by omega, fun D nD => ?_⟩⟩
    refine lc_range (lo := 0) (n := j.toNat) (CpInv X.K σ i mt me ρ (rngD 0 j.toNat) H1 D Q) ⟨Same.updL (acc := []) nD (Same.refl H1), [], [], ys, upd_same, .nil, Nat.le_refl _, q2, fun H' xs s' e' r' => z _ _ (s1.trans s') ⟨D, xs, _, rfl, rfl, s1.free nD, e', r'⟩⟩ (fun n H' hn p => ?_) fun H' ⟨s', acc, dacc, rest, e', ra, _, hc', z'⟩ => ?_
    · exact cp_turn hlen (R.mono s1) nD p (rngD_get hn) (.int _) (by rw [sizeLine_eq]; omega)
    · rw [List.drop_eq_nil_of_le (by rw [rngD_len]; exact Nat.le_refl _)] at hc'
      cases hc'
      exact z' H' acc s' e' (by rw [List.append_nil]; exact ra)
  · cases q1
theorem pm_lc (hc : X.calm = true) (hN : X.N.Nodup) (hl : X.N[i]? = some x) (hi : PEm X xo k iter m) (ok : BlkOk X.N X.env.scope scope [(x, i)])
    (hg : ∀ (s : Shared) (H : Hp) (C : Addr) (cl : List (Str × Addr)) (fp : List Addr), PG (X.blk s H scope (compEnvC scope cl C X.env) fp) tg (gName i)) (ht : ∀ (s : Shared) (H : Hp) (C : Addr) (cl : List (Str × Addr)) (fp : List Addr), PTsm (X.blk s H scope (compEnvC scope cl C X.env) fp) xo ifs mt)
    (he : ∀ (s : Shared) (H : Hp) (C : Addr) (cl : List (Str × Addr)) (fp : List Addr), PEm (X.blk s H scope (compEnvC scope cl C X.env) fp) xo .per elt me) (hs : ∀ x, foldedSetIterable iter X.env x = pure x := by intro _; rfl) :
    PEm X xo .new (.ListComp elt [⟨tg, iter, ifs, 0⟩] scope pos) (mComp i (mIt m) mt me) := by
  have h0 := pe_lc (own := [(x, i)]) (te := tE X.K xo .per me) (tt := tT X.K xo mt) hc hN (pi_seq hi) ok hg ht he hs (pos := pos)
  exact ⟨fun pins s σ H Q I hw => h0.run pins s σ H Q I (tLc_of (by rw [I.len]; exact (List.getElem?_eq_some_iff.mp hl).1) hw)⟩
theorem pm_lcR {p2 : Pos} (hc : X.calm = true) (hN : X.N.Nodup) (hl : X.N[i]? = some x) (hr : Gl X "range") (hm : X.mg "range" = none) (hi : PEm X xo k a m) (ok : BlkOk X.N X.env.scope scope [(x, i)])
    (hg : ∀ (s : Shared) (H : Hp) (C : Addr) (cl : List (Str × Addr)) (fp : List Addr), PG (X.blk s H scope (compEnvC scope cl C X.env) fp) tg (gName i)) (ht : ∀ (s : Shared) (H : Hp) (C : Addr) (cl : List (Str × Addr)) (fp : List Addr), PTsm (X.blk s H scope (compEnvC scope cl C X.env) fp) xo ifs mt)
    (he : ∀ (s : Shared) (H : Hp) (C : Addr) (cl : List (Str × Addr)) (fp : List Addr), PEm (X.blk s H scope (compEnvC scope cl C X.env) fp) xo .per elt me) (hst : starEach [a] X.env = [(false, eval a X.env)] := by rfl) (hs : ∀ x, foldedSetIterable (.Call (.Name "range" p) [a] [] p2) X.env x = pure x := by intro _; rfl) :
    PEm X xo .new (.ListComp elt [⟨tg, (.Call (.Name "range" p) [a] [] p2), ifs, 0⟩] scope pos) (mComp i (mR1c m) mt me) := by
  have h0 := pe_lc (own := [(x, i)]) (te := tE X.K xo .per me) (tt := tT X.K xo mt) hc hN (pi_range1 hr hm (pa_cons hi pa_nil hst) hst) ok hg ht he hs (pos := pos)
  exact ⟨fun pins s σ H Q I hw => h0.run pins s σ H Q I (tLcR_of (by rw [I.len]; exact (List.getElem?_eq_some_iff.mp hl).1) hw)⟩
/-! name = [..] on one line -/
variable {B : Bd} {W : WX} {rk : Kd}
theorem sNewLc {j : Nat} {st : Stmt} {m : ME} {t : TE} (h : PS X st (tAsg t (gName j))) (hw : ∀ σ H Q, (∃ pins s, Inv X pins σ H s) → tE X.K B.xo .new m σ H Q → t σ H Q) : PSm X B W rk st (sNew j m) := ⟨fun pins s σ H D I ⟨ρ, φ, E, q⟩ => h.run pins s σ H D I (by
    obtain ⟨hn, hl, ds, h1, h2⟩ := sNew_ok q.ns
    rw [h2] at q
    refine hw σ H _ ⟨pins, s, I⟩ ⟨ρ, _, E.rd, h1, fun v H' s ⟨a, xs, es, ev, ed, n, ha, r⟩ => ?_⟩
    subst ev
    cases ed
    exact q _ _ _ (E.setNew hn hl s n ha r) ⟨fun b o _ h => s b o h, fun j b z => z.elim (fun z => .inr (by rw [z.2]; exact n)) fun z => .inl ⟨j, z⟩⟩)⟩
theorem sm_setLc {j : Nat} {y : Str} {py spos : Pos} (hc : X.calm = true) (hN : X.N.Nodup) (hl : X.N[i]? = some x) (hy : X.N[j]? = some y) (hyl : X.env.scope.names.lookup y = some .local)
    (hsw : swapsWith (.ListComp elt [⟨tg, iter, ifs, 0⟩] scope pos) (some (.Name y py)) spos.line X.env = pure true) (hi : PEm X B.xo k iter m) (ok : BlkOk X.N X.env.scope scope [(x, i)])
    (hg : ∀ (s : Shared) (H : Hp) (C : Addr) (cl : List (Str × Addr)) (fp : List Addr), PG (X.blk s H scope (compEnvC scope cl C X.env) fp) tg (gName i)) (ht : ∀ (s : Shared) (H : Hp) (C : Addr) (cl : List (Str × Addr)) (fp : List Addr), PTsm (X.blk s H scope (compEnvC scope cl C X.env) fp) B.xo ifs mt)
    (he : ∀ (s : Shared) (H : Hp) (C : Addr) (cl : List (Str × Addr)) (fp : List Addr), PEm (X.blk s H scope (compEnvC scope cl C X.env) fp) B.xo .per elt me) (hs : ∀ x, foldedSetIterable iter X.env x = pure x := by intro _; rfl) :
    PSm X B W rk (.Assign [.Name y py] (.ListComp elt [⟨tg, iter, ifs, 0⟩] scope pos) spos) (sNew j (mComp i (mIt m) mt me)) :=
  sNewLc (ps_setLc (own := [(x, i)]) (te := tE X.K B.xo .per me) (tt := tT X.K B.xo mt) hc hN hy hyl hsw (pi_seq hi) ok hg ht he hs) fun σ H Q ⟨_, _, I⟩ hw => tLc_of (by rw [I.len]; exact (List.getElem?_eq_some_iff.mp hl).1) hw
theorem sm_setLcR {j : Nat} {y : Str} {py spos p2 : Pos} (hc : X.calm = true) (hN : X.N.Nodup) (hl : X.N[i]? = some x) (hy : X.N[j]? = some y) (hyl : X.env.scope.names.lookup y = some .local)
    (hsw : swapsWith (.ListComp elt [⟨tg, (.Call (.Name "range" p) [a] [] p2), ifs, 0⟩] scope pos) (some (.Name y py)) spos.line X.env = pure true) (hr : Gl X "range") (hm : X.mg "range" = none) (hi : PEm X B.xo k a m) (ok : BlkOk X.N X.env.scope scope [(x, i)])
    (hg : ∀ (s : Shared) (H : Hp) (C : Addr) (cl : List (Str × Addr)) (fp : List Addr), PG (X.blk s H scope (compEnvC scope cl C X.env) fp) tg (gName i)) (ht : ∀ (s : Shared) (H : Hp) (C : Addr) (cl : List (Str × Addr)) (fp : List Addr), PTsm (X.blk s H scope (compEnvC scope cl C X.env) fp) B.xo ifs mt)
    (he : ∀ (s : Shared) (H : Hp) (C : Addr) (cl : List (Str × Addr)) (fp : List Addr), PEm (X.blk s H scope (compEnvC scope cl C X.env) fp) B.xo .per elt me) (hst : starEach [a] X.env = [(false, eval a X.env)] := by rfl) (hs : ∀ x, foldedSetIterable (.Call (.Name "range" p) [a] [] p2) X.env x = pure x := by intro _; rfl) :
    PSm X B W rk (.Assign [.Name y py] (.ListComp elt [⟨tg, (.Call (.Name "range" p) [a] [] p2), ifs, 0⟩] scope pos) spos) (sNew j (mComp i (mR1c m) mt me)) :=
  sNewLc (ps_setLc (own := [(x, i)]) (te := tE X.K B.xo .per me) (tt := tT X.K B.xo mt) hc hN hy hyl hsw (pi_range1 hr hm (pa_cons hi pa_nil hst) hst) ok hg ht he hs) fun σ H Q ⟨_, _, I⟩ hw => tLcR_of (by rw [I.len]; exact (List.getElem?_eq_some_iff.mp hl).1) hw
end
end PL

namespace PL
open PySem PySem.Spec PyProof.Rows L2
/-! ### defs -/
inductive FOut where
  | ret (d : PyData) (obs : List Ob) | ex (c : Str) (obs : List Ob) | stuck
abbrev FM := List Sl → FOut
/-- the own things handed in, as they are at the end -/
def outs : List Sl → Rho → List Ob
  | .o _ :: as, .o ob :: ρ => ob :: outs as ρ
  | _ :: as, _ :: ρ => outs as ρ
  | _, _ => []
def runF (n np : Nat) (m : MS) : FM := fun args => if args.length = np then match m (args ++ List.replicate (n - np) .nil) with
    | .nx ρ => .ret .none (outs args ρ)
    | .rt d ρ => .ret d (outs args ρ)
    | .ex c ρ => .ex c (outs args ρ)
    | _ => .stuck
  else .stuck
def ioOf (vs : List V) (args : List Sl) (i : Nat) : Option Addr := match args[i]?, vs[i]? with
  | some (.o _), some (.ref x) => some x
  | _, _ => none
def bdOf (H : Hp) (vs : List V) (args : List Sl) (φ : Nat → Addr → Prop) (xo : XO := fun _ => none) : Bd := ⟨H, fun b => ∃ j, φ j b, ioOf vs args, xo⟩
def ArgsOk (K : PySem.W.Frag) (H : Hp) (vs : List V) (args : List Sl) (φ : Nat → Addr → Prop) : Prop := EnvOk K (bdOf H vs args φ) H (vs.map some) args φ
/-- behind a call: what is not handed in as own stands; the own things -/
structure OutOk (K : PySem.W.Frag) (H : Hp) (vs : List V) (args : List Sl) (φ : Nat → Addr → Prop) (H' : Hp) (obs : List Ob) (φ' : Nat → Addr → Prop) : Prop where
  ev : Ev H φ H' φ'
  dis : ∀ i j b, φ' i b → φ' j b → i = j
  own : ∃ ρ : Rho, obs = outs args ρ ∧ ∀ i ob0, args[i]? = some (.o ob0) → ∃ x ob, vs[i]? = some (.ref x) ∧ ρ[i]? = some (.o ob) ∧ OwnRep K H' (φ' i) x ob
  non : ∀ i, (∀ ob, args[i]? ≠ some (.o ob)) → ∀ b, ¬ φ' i b
  th : ∀ b, (∃ j, φ j b) → ∃ o, H' b = some o
def spM (K : PySem.W.Frag) (rk : Kd) (fm : FM) : Sp := fun vs H Q E => ∃ args φ, ArgsOk K H vs args φ ∧ match fm args with
  | .ret d obs => ∀ v H' φ', OutOk K H vs args φ H' obs φ' → RKr K rk (bdOf H vs args φ) H' φ' v d → Q v H'
  | .ex c obs => ∀ H' φ', OutOk K H vs args φ H' obs φ' → E (.ref (He.ga K c)) none H'
  | .stuck => False
theorem spM_len {K : PySem.W.Frag} {rk : Kd} {n np : Nat} {m : MS} {vs : List V} {H : Hp} {Q : VK} {E : XK} (h : spM K rk (runF n np m) vs H Q E) : vs.length = np := by
  obtain ⟨args, φ, A, q⟩ := h
  have e : vs.length = args.length := by have := A.len; rwa [List.length_map] at this
  unfold runF at q
  split at q
  · rename_i h1
    split at h1
    · rename_i hn; rw [e]; exact hn
    · cases h1
  · rename_i h1
    split at h1
    · rename_i hn; rw [e]; exact hn
    · cases h1
  · exact q.elim
theorem args_get {α : Type} {l : List α} {n i : Nat} {x y : α} (h : (l ++ List.replicate n y)[i]? = some x) : l[i]? = some x ∨ (l[i]? = none ∧ x = y) := by
  by_cases hi : i < l.length
  · rw [List.getElem?_append_left hi] at h
    exact .inl h
  · rw [List.getElem?_append_right (by omega)] at h
    refine .inr ⟨List.getElem?_eq_none_iff.mpr (by omega), ?_⟩
    rw [List.getElem?_replicate] at h
    split at h
    · exact (Option.some.inj h).symm
    · cases h
theorem argsStart {K : PySem.W.Frag} {H : Hp} {vs : List V} {args : List Sl} {φ : Nat → Addr → Prop} {N : List Str} {np : Nat} (A : ArgsOk K H vs args φ) (hl : args.length = np) (hn : np ≤ N.length) :
    EnvOk K (bdOf H vs args φ) H (L2.start N vs) (args ++ List.replicate (N.length - np) .nil) φ := by
  have el : vs.length = args.length := by have := A.len; rwa [List.length_map] at this
  refine ⟨by simp [L2.start]; omega, fun i s q => ?_, fun i q b hb => ?_, A.dis, A.frm, A.frz, A.sub, fun i x q => ?_, fun i c q => ?_⟩
  · rcases args_get q with h | ⟨h, rfl⟩
    · have hi := (List.getElem?_eq_some_iff.mp h).1
      have e : (L2.start N vs)[i]? = (vs.map some)[i]? := by
        unfold L2.start
        exact List.getElem?_append_left (by rw [List.length_map]; omega)
      rw [e]
      exact A.sl i s h
    · exact .nil (A.out i h)
  · refine A.out i ?_ b hb
    rw [List.getElem?_eq_none_iff] at q ⊢
    simp at q
    omega
  · obtain ⟨q1, ob, q2⟩ := A.io i x q
    have hi := (List.getElem?_eq_some_iff.mp q2).1
    refine ⟨?_, ob, ?_⟩
    · unfold L2.start
      rw [List.getElem?_append_left (by rw [List.length_map]; omega)]
      exact q1
    · rw [List.getElem?_append_left hi]
      exact q2
  · rcases args_get q with h | ⟨_, h⟩
    · obtain ⟨a, oe, z, _⟩ := A.xo i c h
      cases z
    · cases h
/-- at a def's end: its own slots are forgotten -/
theorem EnvOk.outOk {K : PySem.W.Frag} {H H' : Hp} {vs : List V} {args : List Sl} {φ φ' : Nat → Addr → Prop} {σ : L2.St} {ρ : Rho} (A : ArgsOk K H vs args φ) (E : EnvOk K (bdOf H vs args φ) H' σ ρ φ') :
    OutOk K H vs args φ H' (outs args ρ) (fun i b => ioOf vs args i ≠ none ∧ φ' i b) := by
  have el : vs.length = args.length := by have := A.len; rwa [List.length_map] at this
  refine ⟨⟨fun b o n h => E.frm b o n h, fun j b z => E.sub j b z.2⟩, fun i j b z w => E.dis i j b z.2 w.2, ⟨ρ, rfl, fun i ob0 h => ?_⟩, fun i hn b z => ?_, fun b z => E.frz b z⟩
  · have z := A.sl i _ h
    have hi := (List.getElem?_eq_some_iff.mp h).1
    rw [List.getElem?_map] at z
    cases hv : vs[i]? with
    | none => rw [List.getElem?_eq_none_iff] at hv; omega
    | some v =>
      rw [hv] at z
      have z : SlOk K H (fun b => ∃ j, φ j b) (φ i) (some (some v)) (.o ob0) := z
      generalize ev : some (some v) = w at z
      cases z with
      | o r =>
        cases ev
        rename_i x
        have hio : ioOf vs args i = some x := by unfold ioOf; rw [h, hv]
        obtain ⟨q1, ob, q2⟩ := E.io i x hio
        obtain ⟨x', e1, r'⟩ := E.own q2
        rw [q1] at e1
        cases e1
        refine ⟨x, ob, rfl, q2, ?_⟩
        have e : (fun b => ioOf vs args i ≠ none ∧ φ' i b) = φ' i := by
          funext b
          exact propext ⟨fun z => z.2, fun z => ⟨by rw [hio]; exact Option.some_ne_none x, z⟩⟩
        rw [e]
        exact r'
  · obtain ⟨z1, z2⟩ := z
    apply z1
    unfold ioOf
    split
    · rename_i ob x h1 h2; exact absurd h1 (hn ob)
    · rfl
section
variable {P : Program} {w : World} {K : PySem.W.Frag} {mg : Str → Option Value} {base : Heap} {x qual : Str} {params : Arguments} {body : List Stmt} {scope : Scope} {dvs : List V} {kws : List (Str × V)} {f : Addr} {fd : FuncData}
/-- THE RULE for a def: its body's mirror -/
theorem fn_ok {N ps : List Str} {k : Nat} {rk : Kd} {m : MS} (F : FunD K x qual params body scope dvs kws f fd) (S : FnScope N ps scope) (hn : ps.length ≤ N.length)
    (hb : ∀ (cdv : Value) (A : Around) (outer : List Env) (s : Shared) (H : Hp) (E : XK) (B : Bd), Room k (A.deeper (envOfC qual scope s.heap.objs.size f cdv)) → (∀ i, ps.length ≤ i → B.io i = none) →
      PSsm (cxOf (L2.CX P w) P w K mg base N qual scope f cdv A outer s H E) B (fun cls d _ H => E cls d H) rk body m) :
    FnOk P w K mg base (L2.CX P w) (k + 1) f fd ps (spM K rk (runF N.length ps.length m)) := by
  refine F.ok S (fun vs H Q E h => spM_len h) fun cdv A outer s H vs Q E hr h => ?_
  obtain ⟨args, φ, Ar, q⟩ := h
  have hB : ∀ i, ps.length ≤ i → (bdOf H vs args φ).io i = none := fun i hi => by
    have el : vs.length = args.length := by have := Ar.len; rwa [List.length_map] at this
    have hv : vs.length = ps.length := spM_len ⟨args, φ, Ar, q⟩
    show ioOf vs args i = none
    unfold ioOf
    rw [show args[i]? = none from List.getElem?_eq_none_iff.mpr (by omega)]
  refine ⟨_, hb cdv A outer s H E (bdOf H vs args φ) hr hB, ?_⟩
  unfold runF at q
  by_cases hl : args.length = ps.length
  · rw [if_pos hl] at q
    refine ⟨_, φ, argsStart Ar hl hn, ?_⟩
    cases e : m (args ++ List.replicate (N.length - ps.length) .nil) with
    | nx ρ =>
      rw [e] at q
      intro σ H' φ' E' _
      have q : ∀ v H' φ', OutOk K H vs args φ H' (outs args ρ) φ' → RKr K rk (bdOf H vs args φ) H' φ' v .none → Q v H' := q
      exact q .non H' _ (EnvOk.outOk Ar E') (by cases rk <;> first | exact Rp.non | exact .inl Rp.non | exact .inl ⟨rfl, rfl⟩)
    | rt d ρ =>
      rw [e] at q
      intro v σ H' φ' E' r
      have q : ∀ v H' φ', OutOk K H vs args φ H' (outs args ρ) φ' → RKr K rk (bdOf H vs args φ) H' φ' v d → Q v H' := q
      refine q v H' _ (EnvOk.outOk Ar E') ?_
      cases rk with
      | per => exact r
      | new => exact r.imp id (Or.imp (fun ⟨t, a, w, xs, ds, d2, e1, e2, sq, n, ha, r, rw, nj⟩ => ⟨t, a, w, xs, ds, d2, e1, e2, sq, n, ha, r, rw, fun j hj z => nj j hj z.2⟩) fun ⟨a, xs, ds, e1, e2, n, ha, r, nj⟩ => ⟨a, xs, ds, e1, e2, n, ha, r, fun j hj z => nj j hj z.2⟩)
      | _ => exact r.imp id fun ⟨a, xs, ds, e1, e2, n, ha, r, nj⟩ => ⟨a, xs, ds, e1, e2, n, ha, r, fun j hj z => nj j hj z.2⟩
    | ex c ρ =>
      rw [e] at q
      intro σ H' φ' E' _
      have q : ∀ H' φ', OutOk K H vs args φ H' (outs args ρ) φ' → E (.ref (He.ga K c)) none H' := q
      exact q H' _ (EnvOk.outOk Ar E')
    | bk ρ => rw [e] at q; exact q.elim
    | ct ρ => rw [e] at q; exact q.elim
    | stuck => rw [e] at q; exact q.elim
  · rw [if_neg hl] at q
    exact q.elim
/-- a def of the text by its name: its mirror -/
structure FnT (P : Program) (w : World) (K : PySem.W.Frag) (mg : Str → Option Value) (base : Heap) (n : Nat) (x : Str) (rk : Kd) (fm : FM) : Prop where
  ex : ∃ (f : Addr) (fd : FuncData) (ps : List Str), FnOk P w K mg base (L2.CX P w) n f fd ps (spM K rk fm) ∧ mg x = some (.ref f) ∧ PySem.W.keepIn K (.ref f) = true ∧ Binds K fd ps []
theorem FnT.mono {n j : Nat} {rk : Kd} {fm : FM} (h : FnT P w K mg base j x rk fm) (hj : j ≤ n) : FnT P w K mg base n x rk fm := by
  obtain ⟨f, fd, ps, F, r⟩ := h.ex
  exact ⟨f, fd, ps, F.mono hj, r⟩
/-- nothing is known of it -/
theorem FnT.none {n : Nat} {rk : Kd} {ps : List Str} (m : mg x = some (.ref f)) (k : PySem.W.keepIn K (.ref f) = true) (b : Binds K fd ps []) : FnT P w K mg base n x rk (fun _ => .stuck) := by
  have no : ∀ vs H Q E, ¬ spM K rk (fun _ => .stuck) vs H Q E := fun vs H Q E ⟨_, _, _, q⟩ => q
  exact ⟨f, fd, ps, ⟨fun vs H Q E h => absurd h (no vs H Q E), fun A outer s H args us vs Q E _ _ _ _ h => absurd h (no vs H Q E)⟩, m, k, b⟩
end
/-! ### calls that turn nothing -/
def mkArgs : List Bool → List PyData → List Sl
  | true :: ks, d :: ds => .d d :: mkArgs ks ds
  | false :: ks, .list xs :: ds => .b xs :: mkArgs ks ds
  | false :: ks, d :: ds => .d d :: mkArgs ks ds
  | _, _ => []
theorem mkArgs_no {ks : List Bool} {ds : List PyData} {i : Nat} {ob : Ob} : (mkArgs ks ds)[i]? ≠ some (.o ob) := by
  induction ds generalizing ks i with
  | nil => cases ks with
    | nil => unfold mkArgs; simp
    | cons k ks => cases k <;> (unfold mkArgs; simp)
  | cons d ds ih =>
    cases ks with
    | nil => unfold mkArgs; simp
    | cons k ks =>
      cases k with
      | true =>
        unfold mkArgs
        cases i with
        | zero => simp
        | succ i => simpa using ih
      | false =>
        cases d <;> (unfold mkArgs; cases i with
          | zero => simp
          | succ i => simpa using ih)
theorem mkArgs_nox {ks : List Bool} {ds : List PyData} {i : Nat} {c : Str} : (mkArgs ks ds)[i]? ≠ some (.x c) := by
  induction ds generalizing ks i with
  | nil => cases ks with
    | nil => unfold mkArgs; simp
    | cons k ks => cases k <;> (unfold mkArgs; simp)
  | cons d ds ih =>
    cases ks with
    | nil => unfold mkArgs; simp
    | cons k ks =>
      cases k with
      | true =>
        unfold mkArgs
        cases i with
        | zero => simp
        | succ i => simpa using ih
      | false =>
        cases d <;> (unfold mkArgs; cases i with
          | zero => simp
          | succ i => simpa using ih)
theorem RAs.sl {K : PySem.W.Frag} {H : Hp} {ks : List Bool} {vs : List V} {ds : List PyData} (r : RAs K H ks vs ds) : (mkArgs ks ds).length = vs.length ∧ ∀ (i : Nat) (s : Sl), (mkArgs ks ds)[i]? = some s → SlOk K H (fun _ => False) (fun _ => False) (vs.map some)[i]? s := by
  induction r with
  | nil => exact ⟨rfl, fun i s q => by simp [mkArgs] at q⟩
  | @per v d ks vs ds r _ ih =>
    refine ⟨congrArg Nat.succ ih.1, fun i s q => ?_⟩
    cases i with
    | zero =>
      have q : some (Sl.d d) = some s := q
      cases q
      exact .d r fun _ z => z
    | succ i => exact ih.2 i s q
  | @any v d ks vs ds r _ ih =>
    have nl : (∀ xs, d ≠ .list xs) → mkArgs (false :: ks) (d :: ds) = .d d :: mkArgs ks ds := fun hn => by
      cases d with
      | list xs => exact absurd rfl (hn xs)
      | _ => rfl
    cases d with
    | list xs =>
      refine ⟨congrArg Nat.succ ih.1, fun i s q => ?_⟩
      cases i with
      | zero =>
        have q : some (Sl.b xs) = some s := q
        cases q
        obtain ⟨a, ys, rfl, e1, p1⟩ := r.list
        exact .b (e1.imp (fun z => ⟨z, fun z => z⟩) id) p1 fun _ z => z
      | succ i => exact ih.2 i s q
    | _ =>
      refine ⟨by rw [nl (by intro xs z; cases z)]; exact congrArg Nat.succ ih.1, fun i s q => ?_⟩
      rw [nl (by intro xs z; cases z)] at q
      cases i with
      | zero =>
        have q : some (Sl.d _) = some s := q
        cases q
        cases r with
        | per r => exact .d r fun _ z => z
      | succ i => exact ih.2 i s q
theorem RAs.argsOk {K : PySem.W.Frag} {H : Hp} {ks : List Bool} {vs : List V} {ds : List PyData} (r : RAs K H ks vs ds) : ArgsOk K H vs (mkArgs ks ds) (fun _ _ => False) := by
  obtain ⟨e, sl⟩ := r.sl
  refine ⟨by rw [List.length_map]; exact e.symm, fun i s q => ?_, fun _ _ _ z => z, fun _ _ _ z => z.elim, fun b o _ q => q, fun b ⟨_, z⟩ => z.elim, fun _ _ z => z.elim, fun i x q => ?_, fun i c q => absurd q mkArgs_nox⟩
  · have z := sl i s q
    have e : (fun b => ∃ j : Nat, (fun (_ : Nat) (_ : Addr) => False) j b) = fun _ : Addr => False := by funext b; exact propext ⟨fun ⟨_, z⟩ => z, False.elim⟩
    rw [e]
    exact z
  · have q : ioOf vs (mkArgs ks ds) i = some x := q
    unfold ioOf at q
    split at q
    · rename_i ob x h1 _; exact absurd h1 mkArgs_no
    · cases q
def mCall (ks : List Bool) (fm : FM) (ms : MA) : ME := fun ρ => (ms ρ).bind fun ds => match fm (mkArgs ks ds) with
  | .ret d _ => some d
  | _ => none
section
variable {X : Cx} {xo : XO} {e : Expr} {es : List Expr} {ms : MA} {ks : List Bool} {pos p : Pos} {x : Str} {n : Nat} {fm : FM}
theorem tCall_of {rk k : Kd} (hk : (rk = .per ∧ k = .per) ∨ (rk = .fre ∧ k = .fre)) {σ : L2.St} {H : Hp} {Q : VK} (h : tE X.K xo k (mCall ks fm ms) σ H Q) : tCall (spM X.K rk fm) [] E0 (tAm X.K xo ks ms) σ H Q := by
  obtain ⟨ρ, d, R, q, z⟩ := h
  obtain ⟨ds, q1, q⟩ := Option.bind_eq_some_iff.mp q
  refine ⟨ρ, ds, R, q1, fun vs H1 s1 r1 => ?_⟩
  show spM X.K rk fm (vs ++ []) H1 Q E0
  rw [List.append_nil]
  refine ⟨mkArgs ks ds, _, r1.argsOk, ?_⟩
  split at q
  · rename_i d' obs e1
    cases q
    rw [e1]
    intro v H' φ' O r
    have s : Same H1 H' := fun b o q => O.ev.st b o (fun ⟨_, z⟩ => z) q
    refine z v H' (s1.trans s) ?_
    rcases hk with ⟨rfl, rfl⟩ | ⟨rfl, rfl⟩
    · exact r
    · exact r.imp id fun ⟨a, xs, ds, e1, e2, n, ha, r, _⟩ => ⟨a, xs, ds, e1, e2, s1.free n, ha, r⟩
  · cases q
theorem passT {X : Cx} : Passes (L2.CX X.prog X.w) X E0 := passL
theorem pm_call (G : FnT X.prog X.w X.K X.mg X.base n x .per fm) (hr : Room n X.A) (hg : Gl X x) (ha : PAm X xo ks (e :: es) ms) (hdb : (x == ("__debug__" : Str)) = false := by decide) (he : starEach (e :: es) X.env = (false, eval e X.env) :: starEach es X.env := by rfl)
    (hpl : (backTo pos (starEach es X.env)).any (·.1) = false := by rfl) : PEm X xo .per (.Call (.Name x p) (e :: es) [] pos) (mCall ks fm ms) := by
  obtain ⟨f, fd, ps, F, hm, hk, hb⟩ := G.ex
  exact (pe_call F hr hg hm hk hb .nil passL ha hdb he hpl).weak fun _ _ _ h => tCall_of (.inl ⟨rfl, rfl⟩) h
theorem pm_callF (G : FnT X.prog X.w X.K X.mg X.base n x .fre fm) (hr : Room n X.A) (hg : Gl X x) (ha : PAm X xo ks (e :: es) ms) (hdb : (x == ("__debug__" : Str)) = false := by decide) (he : starEach (e :: es) X.env = (false, eval e X.env) :: starEach es X.env := by rfl)
    (hpl : (backTo pos (starEach es X.env)).any (·.1) = false := by rfl) : PEm X xo .fre (.Call (.Name x p) (e :: es) [] pos) (mCall ks fm ms) := by
  obtain ⟨f, fd, ps, F, hm, hk, hb⟩ := G.ex
  exact (pe_call F hr hg hm hk hb .nil passL ha hdb he hpl).weak fun _ _ _ h => tCall_of (.inr ⟨rfl, rfl⟩) h
theorem pm_call0 (G : FnT X.prog X.w X.K X.mg X.base n x .per fm) (hr : Room n X.A) (hg : Gl X x) (hdb : (x == ("__debug__" : Str)) = false := by decide) : PEm X xo .per (.Call (.Name x p) [] [] pos) (mCall [] fm mNil) := by
  obtain ⟨f, fd, ps, F, hm, hk, hb⟩ := G.ex
  refine (pe_call0 F hr hg hm hk hb .nil passL hdb).weak fun σ H Q h => ?_
  obtain ⟨ρ, ds, R, q, z⟩ := tCall_of (ks := []) (.inl ⟨rfl, rfl⟩) h
  cases q
  exact z [] H (Same.refl H) .nil
end
end PL

namespace PL
open PySem PySem.Spec PyProof.Rows L2
section
variable {X : Cx} {xo : XO} {B : Bd} {W : WX} {rk : Kd} {st : Stmt} {rest body els : List Stmt} {e a b c : Expr} {m ma mb mc : ME} {mt : MT} {s1 s2 : MS} {k k1 k2 k3 : Kd} {pos p : Pos}
/-! ### an own list is frozen where it stands -/
def sFz (i : Nat) (m : MS) : MS := fun ρ => match ρ[i]? with
  | some (.o (.lst ds)) => m (ρ.set i (.d (.list ds)))
  | _ => m ρ
theorem EnvOk.freeze {K : PySem.W.Frag} {H : Hp} {σ : L2.St} {ρ : Rho} {φ : Nat → Addr → Prop} {i : Nat} {ds : List PyData} (h : EnvOk K B H σ ρ φ) (hi : ρ[i]? = some (.o (.lst ds))) (hio : B.io i = none) :
    ∃ a xs, H a = some (.lst xs) ∧ ∀ o, EnvOk K B (upd H a (.frz o (.lst xs))) σ (ρ.set i (.d (.list ds))) (fun j b => j ≠ i ∧ φ j b) ∧ Ev H φ (upd H a (.frz o (.lst xs))) (fun j b => j ≠ i ∧ φ j b) := by
  obtain ⟨x, hσ, r⟩ := h.own hi
  generalize hfp : φ i = fp at r
  cases r with
  | @lst _ xs _ ea r =>
    refine ⟨x, xs, ea, fun o => ?_⟩
    have hx : φ i x := by rw [hfp]
    have hl : i < ρ.length := (List.getElem?_eq_some_iff.mp hi).1
    have f : Firm H (upd H x (.frz o (.lst xs))) := ⟨fun b ys z => by rw [upd_ne (ne_of z ea (by intro z; cases z))]; exact z, fun b o u z => by rw [upd_ne (ne_of z ea (by intro z; cases z))]; exact z⟩
    have nx : ∀ b, ¬ φ i b → b ≠ x := fun b n e => n (by rw [e]; exact hx)
    refine ⟨⟨by simp [h.len], fun j s q => ?_, fun j q b hb => ?_, fun j l b hj hk => h.dis j l b hj.2 hk.2, fun b o' n q => ?_, fun b z => ?_, fun j b hb => h.sub j b hb.2, fun j y q => ?_, h.xo.setR i (fun c z => by cases z)⟩, ⟨fun b o' n q => ?_, fun j b hb => .inl ⟨j, hb.2⟩⟩⟩
    · by_cases ej : i = j
      · subst ej
        rw [List.getElem?_set_self hl] at q
        cases q
        rw [hσ]
        exact .d (.lst upd_same (r.mono f)) fun b z => z.1 rfl
      · rw [List.getElem?_set_ne ej] at q
        have z := h.sl j s q
        have zj : (fun b => j ≠ i ∧ φ j b) = φ j := by
          funext b
          exact propext ⟨fun z => z.2, fun z => ⟨Ne.symm ej, z⟩⟩
        rw [zj]
        generalize σ[j]? = v at z
        cases z with
        | nil z => exact .nil z
        | d r z => exact .d (r.mono f) z
        | b q' r z =>
          refine .b (q'.imp (fun ⟨rd, na⟩ => ⟨?_, fun ⟨l, hl⟩ => na ⟨l, hl.2⟩⟩) id) (r.mono f) z
          have n := nx _ fun z => na ⟨i, z⟩
          rcases rd with y | ⟨o', y⟩
          · exact .inl (by rw [upd_ne n]; exact y)
          · exact .inr ⟨o', by rw [upd_ne n]; exact y⟩
        | o r => exact .o (r.mono f fun b o hb q => by rw [upd_ne (nx _ fun z => ej (h.dis i j b z hb))]; exact q)
        | r r nr z => exact .r (r.mono f fun b o hb q => by rw [upd_ne (nx _ fun z => nr b hb ⟨i, z⟩)]; exact q) (fun b hb ⟨l, hl⟩ => nr b hb ⟨l, hl.2⟩) z
        | x z => exact .x z
    · exact h.out j (by rw [List.getElem?_eq_none_iff] at q ⊢; simpa using q) b hb.2
    · have nb : b ≠ x := fun e => by
        subst e
        rcases h.sub i b hx with z | z
        · exact n z
        · rw [z] at q; cases q
      rw [upd_ne nb]
      exact h.frm b o' n q
    · by_cases e : b = x
      · subst e; exact ⟨_, upd_same⟩
      · obtain ⟨o', q⟩ := h.frz b z
        exact ⟨o', by rw [upd_ne e]; exact q⟩
    · have ej : i ≠ j := fun ej => by subst ej; rw [hio] at q; cases q
      obtain ⟨q1, ob, q2⟩ := h.io j y q
      exact ⟨q1, ob, by rw [List.getElem?_set_ne ej]; exact q2⟩
    · rw [upd_ne (nx _ fun z => n ⟨i, z⟩)]
      exact q
theorem sm_fz {i : Nat} {s1 : MS} (h : PSm X B W rk st s1) (hio : B.io i = none) : PSm X B W rk st (sFz i s1) := ⟨fun pins s σ H D I ⟨ρ, φ, E, q⟩ => by
  unfold sFz at q
  split at q
  · rename_i ds hi
    obtain ⟨a, xs, ea, hh⟩ := E.freeze hi hio
    obtain ⟨o, I2⟩ := Inv.freeze I ea
    obtain ⟨E2, v⟩ := hh o
    exact h.run pins s σ _ D I2 ⟨_, _, E2, q.mono v⟩
  · exact h.run pins s σ H D I ⟨ρ, φ, E, q⟩⟩
/-! ### name = own.pop() -/
def sPop (j i : Nat) : MS := fun ρ => match ρ[i]? with
  | some (.o (.lst ds)) => match ρ[j]? with
    | some (.o _) => .stuck
    | _ => match ds.getLast? with
      | some d => .nx ((ρ.set i (.o (.lst ds.dropLast))).set j (.d d))
      | none => .stuck
  | _ => .stuck
theorem sPop_ok {i j : Nat} {ρ : Rho} (h : sPop j i ρ ≠ .stuck) : ∃ ds d, ρ[i]? = some (.o (.lst ds)) ∧ (∀ ob, ρ[j]? ≠ some (.o ob)) ∧ ds[ds.length - 1]? = some d ∧ sPop j i ρ = .nx ((ρ.set i (.o (.lst ds.dropLast))).set j (.d d)) := by
  unfold sPop at h ⊢
  cases e : ρ[i]? with
  | none => rw [e] at h; exact absurd rfl h
  | some s =>
    rw [e] at h
    cases s with
    | o ob =>
      cases ob with
      | lst ds =>
        cases q : ds.getLast? with
        | none =>
          refine absurd ?_ h
          simp only [q]
          split <;> rfl
        | some d =>
          have q' := q
          rw [List.getLast?_eq_getElem?] at q'
          refine ⟨ds, d, rfl, fun ob z => ?_, q', ?_⟩
          · simp only [z] at h; exact h rfl
          · simp only [q] at h ⊢
            split at h
            · exact absurd rfl h
            · rename_i hn
              rfl
      | ins C fs => exact absurd rfl h
      | dct ks => exact absurd rfl h
      | map _ _ => exact absurd rfl h
      | two _ _ => exact absurd rfl h
      | pr _ _ => exact absurd rfl h
      | shl => exact absurd rfl h
    | _ => exact absurd rfl h
theorem sm_pop {i j : Nat} {x : Str} {o : Expr} {apos cp pos' : Pos} (hN : X.N.Nodup) (hi : X.N[j]? = some x) (hx : Loc X.env.scope x) (hbm : PE X (.Call (.Attribute o "pop" apos) [] [] cp) (tBM0 X.K "list" rPop (tVar i)))
    (hs : swapsWith (.Call (.Attribute o "pop" apos) [] [] cp) (some (.Name x pos')) pos.line X.env = pure false := by rfl)
    (hf : X.fn x = true ∨ X.env.scope.names.lookup x = some .local := by first | exact .inl rfl | exact .inr rfl | assumption) :
    PSm X B W rk (.Assign [.Name x pos'] (.Call (.Attribute o "pop" apos) [] [] cp) pos) (sPop j i) :=
  (ps_set hN hi hx hbm hs hf).weak fun D σ H ⟨ρ, φ, E, q⟩ => by
    obtain ⟨ds, d, h1, hn, h2, h3⟩ := sPop_ok q.ns
    rw [h3] at q
    obtain ⟨a, e1, r⟩ := E.own h1
    generalize hfp : φ i = fp at r
    cases r with
    | @lst _ xs _ ea r =>
      obtain ⟨v, hv, rv⟩ := r.get h2
      refine ⟨_, e1, .inl ⟨rfl, _, SqL.of ea⟩, a, xs, v, rfl, rfl, ea, by rw [r.length]; exact hv, ?_⟩
      have k : ∀ b o, ¬ φ i b → H b = some o → upd H a (.lst xs.dropLast) b = some o := fun b o n z => by
        have n' : b ≠ a := fun e => n (by rw [hfp]; exact e)
        rw [upd_ne n']; exact z
      have f : Firm H (upd H a (.lst xs.dropLast)) := ⟨fun b ys z => by rw [upd_ne (ne_of z ea (by intro z; cases z))]; exact z, fun b o u z => by rw [upd_ne (ne_of z ea (by intro z; cases z))]; exact z⟩
      have sb : ∀ b, b = a → φ i b ∨ H b = none := fun b z => .inl (by rw [hfp]; exact z)
      have nij : i ≠ j := fun e => by subst e; exact hn _ h1
      refine q _ _ _ ((EnvOk.turn E h1 e1 k (.lst upd_same (r.dropLast.mono f)) sb fun b z => ?_).setD (fun ob z => ?_) (rv.mono f)) (Ev.turn (K := X.K) k sb)
      · rw [hfp] at z
        have z : b = a := z
        subst z
        exact ⟨_, upd_same⟩
      · rw [List.getElem?_set_ne nij] at z
        exact hn ob z
/-! ### - and chains -/
def negM : PyData → Option PyData
  | .int i => some (.int (-i))
  | _ => none
theorem pm_neg (ha : PEm X xo k1 a ma) : PEm X xo .per (.UnaryOp .USub a pos) (mUn negM ma) := (pe_un un_neg ha).weak fun σ H Q ⟨ρ, d, R, q, z⟩ => by
  obtain ⟨x, q1, q⟩ := Option.bind_eq_some_iff.mp q
  refine ⟨ρ, x, R, q1, fun v H' s r => ?_⟩
  cases x with
  | int i => cases q; exact ⟨i, r.toAny.int, z _ _ s (.int _)⟩
  | _ => cases q
def mChain (f g : PyData → PyData → Option PyData) (ma mb mc : ME) : ME := fun ρ => (ma ρ).bind fun x => (mb ρ).bind fun y => (f x y).bind fun z => match z with
  | .bool true => (mc ρ).bind fun w => g y w
  | .bool false => some (.bool false)
  | _ => none
theorem tE_chain {r r' : R2} {f g : PyData → PyData → Option PyData} (hr : R2m X.K .per r f) (hr' : R2m X.K .per r' g) {σ : L2.St} {H : Hp} {Q : VK} (h : tE X.K xo .per (mChain f g ma mb mc) σ H Q) : tChain r r' (tE X.K xo k1 ma) (tE X.K xo k2 mb) (tE X.K xo k3 mc) σ H Q := by
  obtain ⟨ρ, d, R, q, z⟩ := h
  obtain ⟨x, q1, q⟩ := Option.bind_eq_some_iff.mp q
  obtain ⟨y, q2, q⟩ := Option.bind_eq_some_iff.mp q
  obtain ⟨b, q3, q⟩ := Option.bind_eq_some_iff.mp q
  refine ⟨ρ, x, R, q1, fun v H1 s1 r1 => ⟨ρ, y, R.mono s1, q2, fun u H2 s2 r2 => ?_⟩⟩
  refine hr v u H2 _ x y b (r1.toAny.mono s2) r2.toAny q3 fun v' H3 s3 r3 => ?_
  cases b with
  | bool t =>
    refine ⟨t, RpA.bool (.per r3), ?_⟩
    cases t with
    | true =>
      rw [if_pos rfl]
      obtain ⟨w, q4, q⟩ := Option.bind_eq_some_iff.mp q
      exact ⟨ρ, w, ((R.mono s1).mono s2).mono s3, q4, fun w' H4 s4 r4 => hr' u w' H4 Q y w d ((r2.toAny.mono s3).mono s4) r4.toAny q fun v' H' s r => z v' H' ((((s1.trans s2).trans s3).trans s4).trans s) r⟩
    | false =>
      rw [if_neg Bool.false_ne_true]
      cases q
      exact z _ _ ((s1.trans s2).trans s3) (.bl _)
  | _ => cases q
theorem pm_chain {op op' : CmpOp} {r r' : R2} {f g : PyData → PyData → Option PyData} (ho : OpR X (compareOp op) r) (ho' : OpR X (compareOp op') r') (hr : R2m X.K .per r f) (hr' : R2m X.K .per r' g) (ha : PEm X xo k1 a ma) (hb : PEm X xo k2 b mb) (hc : PEm X xo k3 c mc)
    (hm : lastMarks [op, op'] [b, c] = false := by with_unfolding_all rfl) : PEm X xo .per (.Compare a [op, op'] [b, c] pos) (mChain f g ma mb mc) := (pe_chain ho ho' ha hb hc hm).weak fun _ _ _ h => tE_chain hr hr' h
theorem pq_chain {op op' : CmpOp} {r r' : R2} {f g : PyData → PyData → Option PyData} (ho : OpR X (compareOp op) r) (ho' : OpR X (compareOp op') r') (hr : R2m X.K .per r f) (hr' : R2m X.K .per r' g) (ha : PEm X xo k1 a ma) (hb : PEm X xo k2 b mb) (hc : PEm X xo k3 c mc)
    (hm : lastMarks [op, op'] [b, c] = false := by with_unfolding_all rfl) : PTm X xo (.Compare a [op, op'] [b, c] pos) (mTest (mChain f g ma mb mc)) := (pt_chain ho ho' ha hb hc hm).weak fun _ _ _ h => tT_of (fun _ _ _ h => tE_chain hr hr' h) h
/-! ### l.index(x) -/
theorem hu65 {k : Nat} {A : Around} (hr : Room k A) : A.units + 65 < cLine := by have := hu200 hr; omega
def firstIx (d : PyData) : List PyData → Option Nat
  | [] => none
  | z :: zs => if PyData.eqv z d = true then some 0 else (firstIx d zs).map (· + 1)
theorem firstIx_is {d : PyData} : ∀ {ds : List PyData} {j : Nat}, firstIx d ds = some j → (∃ z, ds[j]? = some z ∧ PyData.eqv z d = true) ∧ ∀ (m : Nat) (z' : PyData), m < j → ds[m]? = some z' → PyData.eqv z' d = false
  | [], j, h => by cases h
  | z :: zs, j, h => by
    unfold firstIx at h
    by_cases e : PyData.eqv z d = true
    · rw [if_pos e] at h
      cases h
      exact ⟨⟨z, rfl, e⟩, fun m z' hm => absurd hm (Nat.not_lt_zero m)⟩
    · rw [if_neg e] at h
      obtain ⟨i, hi, rfl⟩ := Option.map_eq_some_iff.mp h
      obtain ⟨⟨y, h1, h2⟩, h3⟩ := firstIx_is hi
      refine ⟨⟨y, by simpa using h1, h2⟩, fun m z' hm hz => ?_⟩
      cases m with
      | zero => simp at hz; subst hz; exact Bool.eq_false_iff.mpr e
      | succ m => exact h3 m z' (by omega) (by simpa using hz)
def indexM (a b : PyData) : Option PyData := match a with
  | .list ds => if SeqAt.shaped (.list ds) = true ∧ SeqAt.shaped b = true then (firstIx b ds).map fun (j : Nat) => PyData.int (j : Int) else none
  | _ => none
theorem pm_index {x arg : Expr} {apos : Pos} (h : PE X (.Call (.Attribute x "index" apos) [arg] [] pos) (tBM X.K "list" (rIndexD X.K) (tE X.K xo k1 ma) (tCons (tE X.K xo k2 mb) tNil))) :
    PEm X xo .per (.Call (.Attribute x "index" apos) [arg] [] pos) (mBin indexM ma mb) := h.weak fun σ H Q ⟨ρ, d, R, q, z⟩ => by
  obtain ⟨u, q1, q⟩ := Option.bind_eq_some_iff.mp q
  obtain ⟨w, q2, q⟩ := Option.bind_eq_some_iff.mp q
  refine ⟨ρ, u, R, q1, fun v H1 s1 r1 => ?_⟩
  have r1 := r1.toAny
  cases u with
  | list ds =>
    unfold indexM at q
    simp only at q
    split at q
    · rename_i hh
      obtain ⟨j, hj, rfl⟩ := Option.map_eq_some_iff.mp q
      obtain ⟨⟨y, h1, h2⟩, h3⟩ := firstIx_is hj
      obtain ⟨a, xs, rfl, sq, rr⟩ := r1.list
      refine ⟨.inl ⟨rfl, xs, sq⟩, ρ, w, R.mono s1, q2, fun v2 H2 s2 r2 => ?_⟩
      exact ⟨a, v2, w, ds, j, y, rfl, rfl, (r1.mono s2).dp, r2.toAny.dp, hh.1, hh.2, h1, h2, h3, z _ _ (s1.trans s2) (.int _)⟩
    · cases q
  | _ => cases q
/-! ### for over a text -/
def signs (x : Str) : List PyData := x.cps.toList.map fun c => .str ⟨#[c]⟩
def mR1s (m : ME) : ML := fun ρ => match m ρ with
  | some (.str x) => some (signs x)
  | _ => none
theorem signs_len (x : Str) : (signs x).length = x.cps.size := by unfold signs; rw [List.length_map, Array.length_toList]
theorem signs_get {x : Str} {j : Nat} {c : Nat} (h : x.cps[j]? = some c) : (signs x)[j]? = some (.str ⟨#[c]⟩) := by
  unfold signs; rw [List.getElem?_map, Array.getElem?_toList, h]; rfl
theorem sm_forS {i : Nat} {tg iter : Expr} {mb : MS} (hp : PassesOwn (model X.prog X.w) X.A X.env X.xe) (hc : X.calm = true) (hi : PEm X B.xo k iter m) (hg : PG X tg (gName i)) (hb : PSsm X B W rk body mb)
    (hs : ∀ x, foldedSetIterable iter X.env x = pure x := by intro _; rfl) : PSm X B W rk (.For tg iter body [] pos) (sFor i (mR1s m) mb) := (ps_for hp hc (pi_str hi) hg hb hs).weak fun D σ H ⟨ρ, φ, E, q⟩ => by
  unfold sFor mR1s at q
  cases h : m ρ with
  | none => rw [h] at q; exact q.elim
  | some d =>
    rw [h] at q
    cases d with
    | str x =>
      refine ⟨ρ, _, E.rd, h, fun v H1 s r => ⟨x, r.toAny.str, ?_⟩⟩
      refine ⟨fun j m σ H => m = x.cps.size - j ∧ j ≤ x.cps.size ∧ ∃ ρ φ, EnvOk X.K B H σ ρ φ ∧ Post X.K B W rk D H φ (forL i mb ((signs x).drop j) ρ), ⟨_, rfl, Nat.zero_le _, ρ, φ, E.same s, q.mono (Ev.same s)⟩, ?_⟩
      rintro j m σ H ⟨rfl, hj, ρ, φ, E, q⟩
      by_cases hlt : j < x.cps.size
      · refine .inr ⟨hlt, _, fun σ' H' z => z, fun v H' y => ?_⟩
        obtain ⟨rfl, c, hc, rfl⟩ := y
        exact turn_body (N := fun σ' H' => ∃ m', m' < x.cps.size - j ∧ m' = x.cps.size - (j + 1) ∧ j + 1 ≤ x.cps.size ∧ ∃ ρ φ, EnvOk X.K B H' σ' ρ φ ∧ Post X.K B W rk D H' φ (forL i mb ((signs x).drop (j + 1)) ρ)) E q (signs_get hc) (.str _) (fun σ' H' ρ' φ' E' w q' => ⟨_, by omega, rfl, hlt, ρ', φ', E', q'⟩) rfl
      · refine .inl ⟨by show x.cps.size ≤ j; omega, ?_⟩
        rw [List.drop_eq_nil_of_le (by rw [signs_len]; omega)] at q
        exact q σ H φ E (Ev.refl _ _)
    | _ => exact q.elim
end
end PL

/- PL, the part for calls that turn own things or raise -/
namespace PL
open PySem PySem.Spec PyProof.Rows L2
/-! ### several slots' own things turn at once -/
theorem EnvOk.turns {K : PySem.W.Frag} {B : Bd} {H H' : Hp} {σ : L2.St} {ρ ρ' : Rho} {φ ψ : Nat → Addr → Prop} {S : Nat → Prop} (h : EnvOk K B H σ ρ φ) (hl : ρ'.length = ρ.length)
    (hS : ∀ i, S i → ∃ x ob ob', ρ[i]? = some (.o ob) ∧ σ[i]? = some (some (.ref x)) ∧ ρ'[i]? = some (.o ob') ∧ OwnRep K H' (ψ i) x ob') (hN : ∀ i, ¬ S i → ρ'[i]? = ρ[i]?)
    (k : ∀ b o, (∀ i, S i → ¬ φ i b) → H b = some o → H' b = some o) (sub : ∀ i b, S i → ψ i b → (∃ l, S l ∧ φ l b) ∨ H b = none) (dj : ∀ i j b, S i → S j → ψ i b → ψ j b → i = j) (st : ∀ i b, S i → φ i b → ∃ o, H' b = some o) :
    EnvOk K B H' σ ρ' (fun i b => (S i ∧ ψ i b) ∨ (¬ S i ∧ φ i b)) ∧ Ev H φ H' (fun i b => (S i ∧ ψ i b) ∨ (¬ S i ∧ φ i b)) := by
  have nS : ∀ {b o}, H b = some o → ¬ Soft o → ∀ i, S i → ¬ φ i b := fun q n i _ z => by obtain ⟨o, q', so⟩ := h.there z; rw [q] at q'; cases q'; exact n so
  have f : Firm H H' := ⟨fun b xs q => k b _ (nS q id) q, fun b o u q => k b _ (nS q id) q⟩
  have old : ∀ j b, φ j b → ∃ o, H b = some o := fun j b z => let ⟨o, q, _⟩ := h.there z; ⟨o, q⟩
  -- an object that was there and is no turning slot's is in none of the new ones
  have nnew : ∀ {b o}, H b = some o → (∀ l, S l → ¬ φ l b) → ∀ i, S i → ¬ ψ i b := fun {b o} q n i hi z => by
    rcases sub i b hi z with ⟨l, h1, h2⟩ | z
    · exact n l h1 h2
    · rw [q] at z; cases z
  refine ⟨⟨by rw [hl]; exact h.len, fun j s q => ?_, fun j q b hb => ?_, fun j l b hj hk => ?_, fun b o n q => ?_, fun b z => ?_, fun j b hb => ?_, fun j y q => ?_, fun j c q => ?_⟩, ⟨fun b o n q => ?_, fun j b hb => ?_⟩⟩
  · by_cases hj : S j
    · obtain ⟨x, ob, ob', q1, q2, q3, r⟩ := hS j hj
      rw [q3] at q
      cases q
      rw [q2]
      have z : (fun b => (S j ∧ ψ j b) ∨ (¬ S j ∧ φ j b)) = ψ j := by funext b; exact propext ⟨fun z => z.elim (fun z => z.2) fun z => absurd hj z.1, fun z => .inl ⟨hj, z⟩⟩
      rw [z]
      exact .o r
    · rw [hN j hj] at q
      have z := h.sl j s q
      have zj : (fun b => (S j ∧ ψ j b) ∨ (¬ S j ∧ φ j b)) = φ j := by funext b; exact propext ⟨fun z => z.elim (fun z => absurd z.1 hj) fun z => z.2, fun z => .inr ⟨hj, z⟩⟩
      rw [zj]
      have un : ∀ {b o}, H b = some o → (¬ ∃ l, φ l b) → ¬ ∃ l, (S l ∧ ψ l b) ∨ (¬ S l ∧ φ l b) := fun {b o} q n ⟨l, z⟩ => by
        rcases z with ⟨z1, z2⟩ | ⟨_, z2⟩
        · exact nnew q (fun l _ z => n ⟨l, z⟩) l z1 z2
        · exact n ⟨l, z2⟩
      generalize σ[j]? = v at z
      cases z with
      | nil z => exact .nil z
      | d r z => exact .d (r.mono f) z
      | b q' r z =>
        refine .b (q'.imp (fun ⟨rd, na⟩ => ?_) id) (r.mono f) z
        rcases rd with y | ⟨o, y⟩
        · exact ⟨.inl (k _ _ (fun i _ z => na ⟨i, z⟩) y), un y na⟩
        · exact ⟨.inr ⟨o, k _ _ (fun i _ z => na ⟨i, z⟩) y⟩, un y na⟩
      | o r => exact .o (r.mono f fun b o hb => k b o (fun i hi z => hj (by rw [h.dis j i b hb z]; exact hi)))
      | r r nr z =>
        refine .r (r.mono f fun b o hb => k b o (fun i _ z => nr b hb ⟨i, z⟩)) (fun b hb => ?_) z
        obtain ⟨o, q, _⟩ := r.soft b hb
        exact un q (nr b hb)
      | x z => exact .x z
  · have hj : ¬ S j := fun z => by obtain ⟨_, _, _, _, _, q3, _⟩ := hS j z; rw [q] at q3; cases q3
    rcases hb with hb | hb
    · exact hj hb.1
    · rw [hN j hj] at q
      exact h.out j q b hb.2
  · rcases hj with ⟨j1, j2⟩ | ⟨j1, j2⟩ <;> rcases hk with ⟨k1, k2⟩ | ⟨k1, k2⟩
    · exact dj j l b j1 k1 j2 k2
    · rcases sub j b j1 j2 with ⟨m, m1, m2⟩ | z
      · exact absurd (by rw [← h.dis m l b m2 k2]; exact m1) k1
      · obtain ⟨o, q⟩ := old l b k2; rw [z] at q; cases q
    · rcases sub l b k1 k2 with ⟨m, m1, m2⟩ | z
      · exact absurd (by rw [← h.dis m j b m2 j2]; exact m1) j1
      · obtain ⟨o, q⟩ := old j b j2; rw [z] at q; cases q
    · exact h.dis j l b j2 k2
  · refine k b o (fun i hi z => ?_) (h.frm b o n q)
    rcases h.sub i b z with z | z
    · exact n z
    · rw [z] at q; cases q
  · by_cases hz : ∃ i, S i ∧ φ i b
    · obtain ⟨i, h1, h2⟩ := hz
      exact st i b h1 h2
    · obtain ⟨o, q⟩ := h.frz b z
      exact ⟨o, k b o (fun i hi z => hz ⟨i, hi, z⟩) q⟩
  · rcases hb with ⟨h1, h2⟩ | ⟨_, h2⟩
    · rcases sub j b h1 h2 with ⟨l, _, z⟩ | z
      · exact h.sub l b z
      · exact .inr (h.new0 z).1
    · exact h.sub j b h2
  · obtain ⟨q1, ob, q2⟩ := h.io j y q
    refine ⟨q1, ?_⟩
    by_cases hj : S j
    · obtain ⟨_, _, ob', _, _, q3, _⟩ := hS j hj
      exact ⟨ob', q3⟩
    · exact ⟨ob, by rw [hN j hj]; exact q2⟩
  · have hj : ¬ S j := fun z => by obtain ⟨_, _, _, _, _, q3, _⟩ := hS j z; rw [q] at q3; cases q3
    rw [hN j hj] at q
    exact h.xo j c q
  · exact k b o (fun i _ z => n ⟨i, z⟩) q
  · rcases hb with ⟨h1, h2⟩ | ⟨_, h2⟩
    · exact (sub j b h1 h2).imp (fun ⟨l, _, z⟩ => ⟨l, z⟩) id
    · exact .inl ⟨j, h2⟩
/-! ### what such an expression's mirror gives -/
inductive XOut where
  | val (d : PyData) (ρ : Rho) | ex (c : Str) (ρ : Rho) | stuck
abbrev MX := Rho → XOut
def PostX (K : PySem.W.Frag) (B : Bd) (W : WX) (σ : L2.St) (Q : VK) (H0 : Hp) (φ0 : Nat → Addr → Prop) : XOut → Prop
  | .val d ρ => ∀ v H φ, EnvOk K B H σ ρ φ → Ev H0 φ0 H φ → Rp K H v d → Q v H
  | .ex c ρ => ∀ H φ, EnvOk K B H σ ρ φ → Ev H0 φ0 H φ → W (.ref (He.ga K c)) none σ H
  | .stuck => False
theorem PostX.mono {K : PySem.W.Frag} {B : Bd} {W : WX} {σ : L2.St} {Q : VK} {H H1 : Hp} {φ φ1 : Nat → Addr → Prop} {o : XOut} (h : PostX K B W σ Q H φ o) (v : Ev H φ H1 φ1) : PostX K B W σ Q H1 φ1 o := by
  cases o with
  | val d ρ => exact fun u H' φ' E w => h u H' φ' E (v.trans w)
  | ex c ρ => exact fun H' φ' E w => h H' φ' E (v.trans w)
  | stuck => exact h
def tX (K : PySem.W.Frag) (B : Bd) (W : WX) (m : MX) : TE := fun σ H Q => ∃ ρ φ, EnvOk K B H σ ρ φ ∧ PostX K B W σ Q H φ (m ρ)
abbrev PXm (X : Cx) (B : Bd) (W : WX) (e : Expr) (m : MX) : Prop := PE X e (tX X.K B W m)
/-! arguments -/
inductive XA where
  | d (d : PyData) | o (i : Nat) | r (i : Nat) | b (i : Nat)
inductive XsOut where
  | vals (as : List XA) (ρ : Rho) | ex (c : Str) (ρ : Rho) | stuck
abbrev MXs := Rho → XsOut
inductive ArgR (K : PySem.W.Frag) (H : Hp) (σ : L2.St) : List V → List XA → Prop
  | nil : ArgR K H σ [] []
  | d {v : V} {d : PyData} {vs as} : Rp K H v d → ArgR K H σ vs as → ArgR K H σ (v :: vs) (.d d :: as)
  | o {v : V} {i : Nat} {vs as} : σ[i]? = some (some v) → ArgR K H σ vs as → ArgR K H σ (v :: vs) (.o i :: as)
  | r {v : V} {i : Nat} {vs as} : σ[i]? = some (some v) → ArgR K H σ vs as → ArgR K H σ (v :: vs) (.r i :: as)
  | b {v : V} {i : Nat} {vs as} : σ[i]? = some (some v) → ArgR K H σ vs as → ArgR K H σ (v :: vs) (.b i :: as)
theorem ArgR.mono {K : PySem.W.Frag} {H H' : Hp} {σ : L2.St} {vs as} (h : ArgR K H σ vs as) (f : Firm H H') : ArgR K H' σ vs as := by
  induction h with
  | nil => exact .nil
  | d r _ ih => exact .d (r.mono f) ih
  | o e _ ih => exact .o e ih
  | r e _ ih => exact .r e ih
  | b e _ ih => exact .b e ih
def PostXs (K : PySem.W.Frag) (B : Bd) (W : WX) (σ : L2.St) (Q : List V → Hp → Prop) (H0 : Hp) (φ0 : Nat → Addr → Prop) : XsOut → Prop
  | .vals as ρ => ∀ vs H φ, EnvOk K B H σ ρ φ → Ev H0 φ0 H φ → ArgR K H σ vs as → Q vs H
  | .ex c ρ => ∀ H φ, EnvOk K B H σ ρ φ → Ev H0 φ0 H φ → W (.ref (He.ga K c)) none σ H
  | .stuck => False
theorem PostXs.mono {K : PySem.W.Frag} {B : Bd} {W : WX} {σ : L2.St} {Q : List V → Hp → Prop} {H H1 : Hp} {φ φ1 : Nat → Addr → Prop} {o : XsOut} (h : PostXs K B W σ Q H φ o) (v : Ev H φ H1 φ1) : PostXs K B W σ Q H1 φ1 o := by
  cases o with
  | vals as ρ => exact fun u H' φ' E w => h u H' φ' E (v.trans w)
  | ex c ρ => exact fun H' φ' E w => h H' φ' E (v.trans w)
  | stuck => exact h
def tXs (K : PySem.W.Frag) (B : Bd) (W : WX) (m : MXs) : TA := fun σ H Q => ∃ ρ φ, EnvOk K B H σ ρ φ ∧ PostXs K B W σ Q H φ (m ρ)
abbrev PXs (X : Cx) (B : Bd) (W : WX) (es : List Expr) (m : MXs) : Prop := PA X es (tXs X.K B W m)
/-- slots handed in as such -/
def slOf (ρ : Rho) : XA → Option Sl
  | .d d => some (.d d)
  | .o i => match ρ[i]? with
    | some (.o ob) => some (.o ob)
    | _ => none
  | .r i => match ρ[i]? with
    | some (.o ob) => some (.r ob)
    | some (.r ob) => some (.r ob)
    | _ => none
  | .b i => match ρ[i]? with
    | some (.b ds) => some (.b ds)
    | some (.o (.lst ds)) => some (.b ds)
    | _ => none
theorem slOf_d {ρ : Rho} {d : PyData} {s : Sl} (h : slOf ρ (.d d) = some s) : s = .d d := (Option.some.inj h).symm
theorem slOf_o {ρ : Rho} {i : Nat} {s : Sl} (h : slOf ρ (.o i) = some s) : ∃ ob, ρ[i]? = some (.o ob) ∧ s = .o ob := by
  simp only [slOf] at h
  split at h
  · rename_i ob e; exact ⟨ob, e, (Option.some.inj h).symm⟩
  · cases h
theorem slOf_r {ρ : Rho} {i : Nat} {s : Sl} (h : slOf ρ (.r i) = some s) : ∃ ob, (ρ[i]? = some (.o ob) ∨ ρ[i]? = some (.r ob)) ∧ s = .r ob := by
  simp only [slOf] at h
  split at h
  · rename_i ob e; exact ⟨ob, .inl e, (Option.some.inj h).symm⟩
  · rename_i ob e; exact ⟨ob, .inr e, (Option.some.inj h).symm⟩
  · cases h
theorem slOf_b {ρ : Rho} {i : Nat} {s : Sl} (h : slOf ρ (.b i) = some s) : ∃ ds, (ρ[i]? = some (.b ds) ∨ ρ[i]? = some (.o (.lst ds))) ∧ s = .b ds := by
  simp only [slOf] at h
  split at h
  · rename_i ob e; exact ⟨ob, .inl e, (Option.some.inj h).symm⟩
  · rename_i ob e; exact ⟨ob, .inr e, (Option.some.inj h).symm⟩
  · cases h
def slsOf (ρ : Rho) : List XA → Option (List Sl)
  | [] => some []
  | a :: as => (slOf ρ a).bind fun s => (slsOf ρ as).map (s :: ·)
def oix : List XA → List Nat
  | [] => []
  | .o i :: as => i :: oix as
  | _ :: as => oix as
def rix : List XA → List Nat
  | [] => []
  | .r i :: as => i :: rix as
  | .b i :: as => i :: rix as
  | _ :: as => rix as
def okA (as : List XA) : Bool := decide (oix as).Nodup && (rix as).all fun i => !(oix as).contains i
def putB : List XA → List Ob → Rho → Rho
  | .o i :: as, ob :: obs, ρ => putB as obs (ρ.set i (.o ob))
  | .o _ :: _, [], ρ => ρ
  | _ :: as, obs, ρ => putB as obs ρ
  | [], _, ρ => ρ
theorem putB_len : ∀ (as : List XA) (obs : List Ob) (ρ : Rho), (putB as obs ρ).length = ρ.length
  | [], _, _ => rfl
  | .d _ :: as, obs, ρ => putB_len as obs ρ
  | .r _ :: as, obs, ρ => putB_len as obs ρ
  | .b _ :: as, obs, ρ => putB_len as obs ρ
  | .o i :: as, [], ρ => rfl
  | .o i :: as, ob :: obs, ρ => by rw [putB, putB_len as obs, List.length_set]
theorem putB_ne : ∀ (as : List XA) (obs : List Ob) (ρ : Rho) (i : Nat), i ∉ oix as → (putB as obs ρ)[i]? = ρ[i]?
  | [], _, _, _, _ => rfl
  | .d _ :: as, obs, ρ, i, h => putB_ne as obs ρ i h
  | .r _ :: as, obs, ρ, i, h => putB_ne as obs ρ i h
  | .b _ :: as, obs, ρ, i, h => putB_ne as obs ρ i h
  | .o j :: as, [], ρ, i, h => rfl
  | .o j :: as, ob :: obs, ρ, i, h => by
    rw [oix, List.mem_cons, not_or] at h
    rw [putB, putB_ne as obs _ i h.2, List.getElem?_set_ne (Ne.symm h.1)]
theorem slsOf_get {ρ : Rho} : ∀ {as : List XA} {sls : List Sl}, slsOf ρ as = some sls → sls.length = as.length ∧ ∀ (j : Nat) (a : XA), as[j]? = some a → ∃ s, sls[j]? = some s ∧ slOf ρ a = some s
  | [], sls, h => by cases h; exact ⟨rfl, fun j a q => by simp at q⟩
  | a :: as, sls, h => by
    obtain ⟨s, h1, h⟩ := Option.bind_eq_some_iff.mp h
    obtain ⟨ss, h2, rfl⟩ := Option.map_eq_some_iff.mp h
    obtain ⟨l, g⟩ := slsOf_get h2
    refine ⟨by simp [l], fun j b q => ?_⟩
    cases j with
    | zero => simp at q; subst q; exact ⟨s, rfl, h1⟩
    | succ j => obtain ⟨s', q1, q2⟩ := g j b (by simpa using q); exact ⟨s', by simpa using q1, q2⟩
theorem putB_at {ρ0 : Rho} : ∀ {as : List XA} {sls : List Sl} (_ : slsOf ρ0 as = some sls) (ρr ρ : Rho), (oix as).Nodup → (∀ (j i : Nat), as[j]? = some (.o i) → ∃ ob, ρr[j]? = some (.o ob)) → ∀ (j i : Nat) (ob : Ob), as[j]? = some (.o i) → ρr[j]? = some (.o ob) → i < ρ.length →
    (putB as (outs sls ρr) ρ)[i]? = some (.o ob)
  | [], _, _, _, _, _, _, j, i, ob, q, _, _ => by simp at q
  | a :: as, sls, h, ρr, ρ, nd, hr, j, i, ob, q1, q2, hl => by
    obtain ⟨s, h1, h⟩ := Option.bind_eq_some_iff.mp h
    obtain ⟨ss, h2, rfl⟩ := Option.map_eq_some_iff.mp h
    match ρr, hr, q2 with
    | [], hr, q2 => simp at q2
    | r :: ρr, hr, q2 =>
      have hr' : ∀ (j i : Nat), as[j]? = some (.o i) → ∃ ob, ρr[j]? = some (.o ob) := fun j i q => hr (j + 1) i (by simpa using q)
      have own : (∃ k, a = .o k) ∨ ((∀ k, a ≠ .o k) ∧ (∀ ob, s ≠ .o ob)) := by
        cases a with
        | o k => exact .inl ⟨k, rfl⟩
        | d d => exact .inr ⟨(by intro k z; cases z), fun ob z => by rw [slOf_d h1] at z; cases z⟩
        | r k => exact .inr ⟨(by intro k z; cases z), fun ob z => by obtain ⟨_, _, e⟩ := slOf_r h1; rw [e] at z; cases z⟩
        | b k => exact .inr ⟨(by intro k z; cases z), fun ob z => by obtain ⟨_, _, e⟩ := slOf_b h1; rw [e] at z; cases z⟩
      rcases own with ⟨k, rfl⟩ | ⟨na, ns⟩
      · obtain ⟨ob0, e0⟩ := hr 0 k rfl
        simp at e0
        subst e0
        obtain ⟨ob1, _, rfl⟩ := slOf_o h1
        rw [outs, putB]
        rw [oix, List.nodup_cons] at nd
        cases j with
        | zero =>
          simp at q1 q2
          subst q1
          subst q2
          rw [putB_ne _ _ _ _ nd.1, List.getElem?_set_self hl]
        | succ j => exact putB_at h2 ρr _ nd.2 hr' j i ob (by simpa using q1) (by simpa using q2) (by simpa using hl)
      · have eo : outs (s :: ss) (r :: ρr) = outs ss ρr := by
          cases s with
          | o ob => exact absurd rfl (ns ob)
          | _ => rfl
        have ep : ∀ obs, putB (a :: as) obs ρ = putB as obs ρ := fun obs => by
          cases a with
          | o k => exact absurd rfl (na k)
          | _ => rfl
        have nd' : (oix as).Nodup := by
          cases a with
          | o k => exact absurd rfl (na k)
          | _ => exact nd
        rw [eo, ep]
        cases j with
        | zero => simp at q1; exact absurd q1 (na i)
        | succ j => exact putB_at h2 ρr _ nd' hr' j i ob (by simpa using q1) (by simpa using q2) hl
theorem oix_mem : ∀ {as : List XA} {i : Nat}, i ∈ oix as ↔ ∃ j : Nat, as[j]? = some (.o i)
  | [], i => by simp [oix]
  | a :: as, i => by
    have ih := oix_mem (as := as) (i := i)
    constructor
    · intro h
      cases a with
      | o k =>
        rw [oix, List.mem_cons] at h
        rcases h with rfl | h
        · exact ⟨0, rfl⟩
        · obtain ⟨j, q⟩ := ih.mp h; exact ⟨j + 1, by simpa using q⟩
      | _ => obtain ⟨j, q⟩ := ih.mp h; exact ⟨j + 1, by simpa using q⟩
    · rintro ⟨j, q⟩
      cases j with
      | zero => simp at q; subst q; rw [oix]; exact List.mem_cons_self
      | succ j =>
        have := ih.mpr ⟨j, by simpa using q⟩
        cases a with
        | o k => rw [oix]; exact List.mem_cons_of_mem _ this
        | _ => exact this
theorem oix_inj : ∀ {as : List XA} {i j k : Nat}, (oix as).Nodup → as[j]? = some (.o i) → as[k]? = some (.o i) → j = k
  | [], _, _, _, _, q, _ => by simp at q
  | a :: as, i, j, k, nd, q1, q2 => by
    have tail : (oix as).Nodup := by
      cases a with
      | o k => rw [oix, List.nodup_cons] at nd; exact nd.2
      | _ => exact nd
    cases j with
    | zero =>
      simp at q1
      subst q1
      cases k with
      | zero => rfl
      | succ k =>
        rw [oix, List.nodup_cons] at nd
        exact absurd (oix_mem.mpr ⟨k, by simpa using q2⟩) nd.1
    | succ j =>
      cases k with
      | zero =>
        simp at q2
        subst q2
        rw [oix, List.nodup_cons] at nd
        exact absurd (oix_mem.mpr ⟨j, by simpa using q1⟩) nd.1
      | succ k => exact congrArg Nat.succ (oix_inj (i := i) tail (by simpa using q1) (by simpa using q2))
theorem rix_mem : ∀ {as : List XA} {i j : Nat}, (as[j]? = some (XA.r i) ∨ as[j]? = some (XA.b i)) → i ∈ rix as
  | [], _, _, q => by simp at q
  | a :: as, i, j, q => by
    cases j with
    | zero =>
      simp at q
      rcases q with q | q
      · subst q; exact List.mem_cons_self
      · subst q; exact List.mem_cons_self
    | succ j =>
      have := rix_mem (as := as) (i := i) (j := j) (by simpa using q)
      cases a with
      | r k => rw [rix]; exact List.mem_cons_of_mem _ this
      | b k => rw [rix]; exact List.mem_cons_of_mem _ this
      | _ => exact this
def argIs (K : PySem.W.Frag) (H : Hp) (σ : L2.St) (v : V) : XA → Prop
  | .d d => Rp K H v d
  | .o i => σ[i]? = some (some v)
  | .r i => σ[i]? = some (some v)
  | .b i => σ[i]? = some (some v)
theorem ArgR.get {K : PySem.W.Frag} {H : Hp} {σ : L2.St} {vs : List V} {as : List XA} (h : ArgR K H σ vs as) : vs.length = as.length ∧ ∀ (j : Nat) (a : XA), as[j]? = some a → ∃ v, vs[j]? = some v ∧ argIs K H σ v a := by
  induction h with
  | nil => exact ⟨rfl, fun j a q => by simp at q⟩
  | d r _ ih =>
    refine ⟨congrArg Nat.succ ih.1, fun j a q => ?_⟩
    cases j with
    | zero => simp at q; subst q; exact ⟨_, rfl, r⟩
    | succ j => obtain ⟨v, h1, h2⟩ := ih.2 j a (by simpa using q); exact ⟨v, by simpa using h1, h2⟩
  | o r _ ih =>
    refine ⟨congrArg Nat.succ ih.1, fun j a q => ?_⟩
    cases j with
    | zero => simp at q; subst q; exact ⟨_, rfl, r⟩
    | succ j => obtain ⟨v, h1, h2⟩ := ih.2 j a (by simpa using q); exact ⟨v, by simpa using h1, h2⟩
  | r r _ ih =>
    refine ⟨congrArg Nat.succ ih.1, fun j a q => ?_⟩
    cases j with
    | zero => simp at q; subst q; exact ⟨_, rfl, r⟩
    | succ j => obtain ⟨v, h1, h2⟩ := ih.2 j a (by simpa using q); exact ⟨v, by simpa using h1, h2⟩
  | b r _ ih =>
    refine ⟨congrArg Nat.succ ih.1, fun j a q => ?_⟩
    cases j with
    | zero => simp at q; subst q; exact ⟨_, rfl, r⟩
    | succ j => obtain ⟨v, h1, h2⟩ := ih.2 j a (by simpa using q); exact ⟨v, by simpa using h1, h2⟩
end PL

namespace PL
open PySem PySem.Spec PyProof.Rows L2
/-! ### a call that may turn what is handed in -/
def phiOf (as : List XA) (φ : Nat → Addr → Prop) (j : Nat) (b : Addr) : Prop := ∃ i, as[j]? = some (.o i) ∧ φ i b
theorem okA_nd {as : List XA} (h : okA as = true) : (oix as).Nodup := of_decide_eq_true (Bool.and_eq_true_iff.mp h).1
theorem okA_no {as : List XA} (h : okA as = true) {i : Nat} (hi : i ∈ rix as) : i ∉ oix as := by
  have z := List.all_eq_true.mp (Bool.and_eq_true_iff.mp h).2 i hi
  intro m
  have : (oix as).contains i = true := List.contains_iff_mem.mpr m
  rw [this] at z
  cases z
theorem slOf_nx {ρ : Rho} {a : XA} {s : Sl} (h : slOf ρ a = some s) : ∀ c, s ≠ .x c := by
  intro c z
  subst z
  cases a with
  | d d => cases slOf_d h
  | o i => obtain ⟨_, _, e⟩ := slOf_o h; cases e
  | r i => obtain ⟨_, _, e⟩ := slOf_r h; cases e
  | b i => obtain ⟨_, _, e⟩ := slOf_b h; cases e
section
variable {K : PySem.W.Frag} {B : Bd} {H : Hp} {σ : L2.St} {ρ : Rho} {φ : Nat → Addr → Prop} {vs : List V} {as : List XA} {sls : List Sl}
theorem back_get (r : ArgR K H σ vs as) (e : slsOf ρ as = some sls) {j : Nat} {s : Sl} (q : sls[j]? = some s) : ∃ a v, as[j]? = some a ∧ slOf ρ a = some s ∧ vs[j]? = some v ∧ argIs K H σ v a := by
  obtain ⟨l, g⟩ := slsOf_get e
  have hj : j < as.length := by rw [← l]; exact (List.getElem?_eq_some_iff.mp q).1
  obtain ⟨s', q1, q2⟩ := g j as[j] (List.getElem?_eq_getElem hj)
  rw [q] at q1
  cases q1
  obtain ⟨v, q3, q4⟩ := r.get.2 j as[j] (List.getElem?_eq_getElem hj)
  exact ⟨_, v, List.getElem?_eq_getElem hj, q2, q3, q4⟩
theorem ArgR.argsOk (h : EnvOk K B H σ ρ φ) (r : ArgR K H σ vs as) (e : slsOf ρ as = some sls) (ok : okA as = true) : ArgsOk K H vs sls (phiOf as φ) := by
  obtain ⟨l, g⟩ := slsOf_get e
  have lv := r.get.1
  refine ⟨by rw [List.length_map, lv, l], fun j s q => ?_, fun j q b ⟨i, z, _⟩ => ?_, fun i j b ⟨i1, z1, y1⟩ ⟨i2, z2, y2⟩ => ?_, fun b o _ q => q, fun b ⟨j, i, z, y⟩ => let ⟨u, q, _⟩ := h.there y; ⟨u, q⟩, fun j b z => .inl ⟨j, z⟩, fun j x q => ?_, fun j c q => ?_⟩
  · obtain ⟨a, v, q1, q2, q3, q4⟩ := back_get r e q
    rw [List.getElem?_map, q3]
    show SlOk K H (fun b => ∃ j, phiOf as φ j b) (phiOf as φ j) (some (some v)) s
    have none_ : (∀ i, a ≠ .o i) → ∀ b, ¬ phiOf as φ j b := fun n b ⟨i, z, _⟩ => by rw [q1] at z; exact n i (Option.some.inj z)
    have apart : ∀ i, i ∈ rix as → ∀ b, φ i b → ¬ ∃ j, phiOf as φ j b := fun i hi b hb ⟨j, k, z, y⟩ => by
      have := h.dis i k b hb y
      subst this
      exact okA_no ok hi (oix_mem.mpr ⟨j, z⟩)
    cases a with
    | d d => rw [slOf_d q2]; exact .d q4 (none_ (by intro i z; cases z))
    | o i =>
      obtain ⟨ob, y1, rfl⟩ := slOf_o q2
      obtain ⟨x, y2, y3⟩ := h.own y1
      have q4 : σ[i]? = some (some v) := q4
      rw [y2] at q4
      cases q4
      have z : phiOf as φ j = φ i := by
        funext b
        exact propext ⟨fun ⟨k, z1, z2⟩ => by rw [q1] at z1; cases z1; exact z2, fun z => ⟨i, q1, z⟩⟩
      rw [z]
      exact .o y3
    | r i =>
      obtain ⟨ob, y1, rfl⟩ := slOf_r q2
      have hi := rix_mem (.inl q1)
      have q4 : σ[i]? = some (some v) := q4
      rcases y1 with y1 | y1
      · obtain ⟨x, y2, y3⟩ := h.own y1
        rw [y2] at q4
        cases q4
        exact .r y3 (apart i hi) (none_ (by intro i z; cases z))
      · have z := h.sl i _ y1
        rw [q4] at z
        generalize ew : some (some v) = w at z
        cases z with
        | r r1 r2 _ =>
          cases ew
          exact .r r1 (fun b hb ⟨j, k, z, y⟩ => r2 b hb ⟨k, y⟩) (none_ (by intro i z; cases z))
    | b i =>
      obtain ⟨ds, y1, rfl⟩ := slOf_b q2
      have hi := rix_mem (.inr q1)
      have q4 : σ[i]? = some (some v) := q4
      rcases y1 with y1 | y1
      · have z := h.sl i _ y1
        rw [q4] at z
        generalize ew : some (some v) = w at z
        cases z with
        | b r1 r2 _ =>
          cases ew
          exact .b (r1.imp (fun ⟨z1, z2⟩ => ⟨z1, fun ⟨j, k, z, y⟩ => z2 ⟨k, y⟩⟩) id) r2 (none_ (by intro i z; cases z))
      · obtain ⟨x, y2, y3⟩ := h.own y1
        rw [y2] at q4
        cases q4
        generalize hfp : φ i = fp at y3
        cases y3 with
        | lst z1 z2 => exact .b (.inl ⟨.inl z1, apart i hi x (by rw [hfp])⟩) z2 (none_ (by intro i z; cases z))
  · have hj : j < sls.length := by rw [l]; exact (List.getElem?_eq_some_iff.mp z).1
    rw [List.getElem?_eq_getElem hj] at q
    cases q
  · have := h.dis i1 i2 b y1 y2
    subst this
    exact oix_inj (okA_nd ok) z1 z2
  · have q : ioOf vs sls j = some x := q
    unfold ioOf at q
    split at q
    · rename_i ob y h1 h2
      cases q
      exact ⟨by rw [List.getElem?_map, h2]; rfl, ob, h1⟩
    · cases q
  · obtain ⟨a, v, _, q2, _, _⟩ := back_get r e q
    exact absurd rfl (slOf_nx q2 c)
/-- behind it -/
theorem ArgR.back {H' : Hp} {obs : List Ob} {φ' : Nat → Addr → Prop} (h : EnvOk K B H σ ρ φ) (r : ArgR K H σ vs as) (e : slsOf ρ as = some sls) (ok : okA as = true) (O : OutOk K H vs sls (phiOf as φ) H' obs φ') :
    ∃ ψ, EnvOk K B H' σ (putB as obs ρ) ψ ∧ Ev H φ H' ψ := by
  obtain ⟨ρr, eo, own⟩ := O.own
  have nd := okA_nd ok
  have ats : ∀ j i, as[j]? = some (.o i) → ∃ x ob ob', ρ[i]? = some (.o ob) ∧ σ[i]? = some (some (.ref x)) ∧ ρr[j]? = some (.o ob') ∧ OwnRep K H' (φ' j) x ob' := fun j i q => by
    obtain ⟨s, q1, q2⟩ := (slsOf_get e).2 j _ q
    obtain ⟨ob, y1, rfl⟩ := slOf_o q2
    obtain ⟨x, ob', z1, z2, z3⟩ := own j ob q1
    obtain ⟨v, q3, q4⟩ := r.get.2 j _ q
    rw [z1] at q3
    cases q3
    exact ⟨x, ob, ob', y1, q4, z2, z3⟩
  refine ⟨_, EnvOk.turns (S := fun i => i ∈ oix as) (ψ := fun i b => ∃ j, as[j]? = some (.o i) ∧ φ' j b) h (putB_len _ _ _) (fun i hi => ?_) (fun i hi => putB_ne _ _ _ _ hi) (fun b o n q => O.ev.st b o (fun ⟨j, i, z, y⟩ => n i (oix_mem.mpr ⟨j, z⟩) y) q) (fun i b hi ⟨j, z, y⟩ => ?_)
    (fun i k b hi hk ⟨j1, z1, y1⟩ ⟨j2, z2, y2⟩ => ?_) fun i b hi hb => ?_⟩
  · obtain ⟨j, q⟩ := oix_mem.mp hi
    obtain ⟨x, ob, ob', y1, y2, y3, y4⟩ := ats j i q
    refine ⟨x, ob, ob', y1, y2, ?_, ?_⟩
    · rw [eo]
      exact putB_at e ρr ρ nd (fun j i q => let ⟨_, _, ob', _, _, z, _⟩ := ats j i q; ⟨ob', z⟩) j i ob' q y3 (List.getElem?_eq_some_iff.mp y1).1
    · have z : (fun b => ∃ j, as[j]? = some (.o i) ∧ φ' j b) = φ' j := by
        funext b
        exact propext ⟨fun ⟨k, z1, z2⟩ => by rw [oix_inj nd q z1]; exact z2, fun z => ⟨j, q, z⟩⟩
      rw [z]
      exact y4
  · rcases O.ev.sub j b y with ⟨l, k, z1, z2⟩ | z
    · exact .inl ⟨k, oix_mem.mpr ⟨l, z1⟩, z2⟩
    · exact .inr z
  · have := O.dis j1 j2 b y1 y2
    subst this
    rw [z1] at z2
    cases z2
    rfl
  · obtain ⟨j, q⟩ := oix_mem.mp hi
    exact O.th b ⟨j, i, q, hb⟩
end
def xFin (as : List XA) (ρ : Rho) : FOut → XOut
  | .ret d obs => .val d (putB as obs ρ)
  | .ex c obs => .ex c (putB as obs ρ)
  | .stuck => .stuck
def xCall (fm : FM) (ms : MXs) : MX := fun ρ => match ms ρ with
  | .vals as ρ' => match okA as, slsOf ρ' as with
    | true, some sls => xFin as ρ' (fm sls)
    | _, _ => .stuck
  | .ex c ρ' => .ex c ρ'
  | .stuck => .stuck
section
variable {X : Cx} {B : Bd} {W : WX} {e o : Expr} {es : List Expr} {m : ME} {mx : MX} {ms : MXs} {k : Kd} {pos p apos : Pos} {x : Str} {n : Nat} {fm : FM}
theorem xCall_sp {σ : L2.St} {H : Hp} {Q : VK} {ρ : Rho} {φ : Nat → Addr → Prop} {vs : List V} {as : List XA} {H0 : Hp} {φ0 : Nat → Addr → Prop} (E : EnvOk X.K B H σ ρ φ) (v : Ev H0 φ0 H φ) (r : ArgR X.K H σ vs as)
    (q : PostX X.K B W σ Q H0 φ0 (match okA as, slsOf ρ as with
    | true, some sls => xFin as ρ (fm sls)
    | _, _ => .stuck)) : spM X.K .per fm vs H Q (WE W σ) := by
  cases ok : okA as with
  | false => rw [ok] at q; exact q.elim
  | true =>
    rw [ok] at q
    cases es : slsOf ρ as with
    | none => rw [es] at q; exact q.elim
    | some sls =>
      rw [es] at q
      refine ⟨sls, _, r.argsOk E es ok, ?_⟩
      have q : PostX X.K B W σ Q H0 φ0 (xFin as ρ (fm sls)) := q
      cases ef : fm sls with
      | ret d obs =>
        rw [ef] at q
        intro u H' φ' O rv
        obtain ⟨ψ, E', v'⟩ := r.back E es ok O
        exact q u H' ψ E' (v.trans v') rv
      | ex c obs =>
        rw [ef] at q
        intro H' φ' O
        obtain ⟨ψ, E', v'⟩ := r.back E es ok O
        exact q H' ψ E' (v.trans v')
      | stuck => rw [ef] at q; exact q.elim
theorem xCall_tx {σ : L2.St} {H : Hp} {Q : VK} (h : tX X.K B W (xCall fm ms) σ H Q) : tCallS (spM X.K .per fm) (WE W) (tXs X.K B W ms) σ H Q := by
  obtain ⟨ρ, φ, E, q⟩ := h
  refine ⟨ρ, φ, E, ?_⟩
  unfold xCall at q
  cases e1 : ms ρ with
  | stuck => rw [e1] at q; exact q.elim
  | ex c ρ' => rw [e1] at q; exact q
  | vals as ρ' =>
    rw [e1] at q
    exact fun vs H' φ' E' v r => xCall_sp E' v r q
/-! the arguments' mirrors -/
def xNil : MXs := fun ρ => .vals [] ρ
def xCons (m : MX) (ms : MXs) : MXs := fun ρ => match m ρ with
  | .val d ρ1 => match ms ρ1 with
    | .vals as ρ2 => .vals (.d d :: as) ρ2
    | o => o
  | .ex c ρ1 => .ex c ρ1
  | .stuck => .stuck
def xSlot (a : XA) (ms : MXs) : MXs := fun ρ => match slOf ρ a with
  | some _ => match ms ρ with
    | .vals as ρ2 => .vals (a :: as) ρ2
    | o => o
  | none => .stuck
theorem xa_nil : PXs X B W [] xNil := pa_nil.weak fun σ H Q ⟨ρ, φ, E, q⟩ => q [] H φ E (Ev.refl _ _) .nil
theorem xa_cons (ha : PXm X B W e mx) (hr : PXs X B W es ms) (hs : starEach (e :: es) X.env = (false, eval e X.env) :: starEach es X.env := by rfl) : PXs X B W (e :: es) (xCons mx ms) := (pa_cons ha hr hs).weak fun σ H Q ⟨ρ, φ, E, q⟩ => by
  refine ⟨ρ, φ, E, ?_⟩
  unfold xCons at q
  cases e1 : mx ρ with
  | stuck => rw [e1] at q; exact q.elim
  | ex c ρ' => rw [e1] at q; exact q
  | val d ρ1 =>
    rw [e1] at q
    intro v H1 φ1 E1 v1 r1
    refine ⟨ρ1, φ1, E1, ?_⟩
    have q : PostXs X.K B W σ Q H φ (match ms ρ1 with
      | .vals as ρ2 => .vals (.d d :: as) ρ2
      | o => o) := q
    cases e2 : ms ρ1 with
    | stuck => rw [e2] at q; exact q.elim
    | ex c ρ' => rw [e2] at q; exact fun H' φ' E' v' => q H' φ' E' (v1.trans v')
    | vals as ρ2 =>
      rw [e2] at q
      exact fun vs H' φ' E' v' r => q _ H' φ' E' (v1.trans v') (.d (r1.mono (v'.firm E1)) r)
/-- a slot's thing handed in as such -/
theorem xa_slot {a : XA} {i : Nat} (hi : a = .o i ∨ a = .r i ∨ a = .b i) {y : Str} (hN : X.N[i]? = some y) (hr : PXs X B W es ms) (hv : Vis X.env.scope y := by first | exact Or.inl rfl | exact Or.inr (Or.inl rfl) | exact Or.inr (Or.inr rfl)) (hd : (y == ("__debug__" : Str)) = false := by decide)
    (hcd : (y == ("__classdict__" : Str)) = false := by decide) (hs : starEach (.Name y p :: es) X.env = (false, eval (.Name y p) X.env) :: starEach es X.env := by rfl) :
    PXs X B W (.Name y p :: es) (xSlot a ms) := (pa_cons (pe_var (i := i) hN hv hd hcd) hr hs).weak fun σ H Q ⟨ρ, φ, E, q⟩ => by
  unfold xSlot at q
  cases e1 : slOf ρ a with
  | none => rw [e1] at q; exact q.elim
  | some s =>
    rw [e1] at q
    have hv : ∃ v, σ[i]? = some (some v) := by
      rcases hi with rfl | rfl | rfl
      · obtain ⟨ob, y1, _⟩ := slOf_o e1
        obtain ⟨x, y2, _⟩ := E.own y1
        exact ⟨_, y2⟩
      · obtain ⟨ob, y1, _⟩ := slOf_r e1
        rcases y1 with y1 | y1
        · obtain ⟨x, y2, _⟩ := E.own y1
          exact ⟨_, y2⟩
        · have z := E.sl i _ y1
          generalize σ[i]? = w at z ⊢
          cases z with
          | r _ _ _ => exact ⟨_, rfl⟩
      · obtain ⟨ds, y1, _⟩ := slOf_b e1
        rcases y1 with y1 | y1
        · have z := E.sl i _ y1
          generalize σ[i]? = w at z ⊢
          cases z with
          | b _ _ _ => exact ⟨_, rfl⟩
        · obtain ⟨x, y2, _⟩ := E.own y1
          exact ⟨_, y2⟩
    obtain ⟨v, hv⟩ := hv
    refine ⟨v, hv, ρ, φ, E, ?_⟩
    have q : PostXs X.K B W σ Q H φ (match ms ρ with
      | .vals as ρ2 => .vals (a :: as) ρ2
      | o => o) := q
    cases e2 : ms ρ with
    | stuck => rw [e2] at q; exact q.elim
    | ex c ρ' => rw [e2] at q; exact q
    | vals as ρ2 =>
      rw [e2] at q
      intro vs H' φ' E' v' r
      refine q _ H' φ' E' v' ?_
      rcases hi with rfl | rfl | rfl
      · exact .o hv r
      · exact .r hv r
      · exact .b hv r
end
end PL

namespace PL
open PySem PySem.Spec PyProof.Rows L2
section
variable {X : Cx} {B : Bd} {W : WX} {rk : Kd} {st : Stmt} {rest body els : List Stmt} {e a b c : Expr} {es : List Expr} {m ma mb : ME} {mx nx : MX} {ms : MXs} {mt : MT} {s1 s2 : MS} {k k1 k2 : Kd} {pos p apos : Pos} {x : Str} {n : Nat} {fm : FM}
/-! ### expressions that may turn things -/
def xE (m : ME) : MX := fun ρ => match m ρ with
  | some d => .val d ρ
  | none => .stuck
theorem px (h : PEm X B.xo .per e m) : PXm X B W e (xE m) := h.weak fun σ H Q ⟨ρ, φ, E, q⟩ => by
  unfold xE at q
  cases e1 : m ρ with
  | none => rw [e1] at q; exact q.elim
  | some d => rw [e1] at q; exact ⟨ρ, d, E.rd, e1, fun v H' s r => q v H' φ (E.same s) (Ev.same s) r⟩
theorem px_call (tk : Takes X W) (G : FnT X.prog X.w X.K X.mg X.base n x .per fm) (hr : Room n X.A) (hg : Gl X x) (ha : PXs X B W (e :: es) ms) (hdb : (x == ("__debug__" : Str)) = false := by decide) (he : starEach (e :: es) X.env = (false, eval e X.env) :: starEach es X.env := by rfl)
    (hpl : (backTo pos (starEach es X.env)).any (·.1) = false := by rfl) : PXm X B W (.Call (.Name x p) (e :: es) [] pos) (xCall fm ms) := by
  obtain ⟨f, fd, ps, F, hm, hk, hb⟩ := G.ex
  exact (pe_callS F hr hg hm hk hb (fun σ => passAt tk σ) ha hdb he hpl).weak fun _ _ _ h => xCall_tx h
/-- a new list that comes behind is frozen -/
theorem out_frz {K : PySem.W.Frag} {σ : L2.St} {Q : VK} {H0 H2 H' : Hp} {φ0 φ2 : Nat → Addr → Prop} {ρ : Rho} {v : V} {d : PyData} (hk : k ≠ .any) (E : EnvOk K B H2 σ ρ φ2) (w : Ev H0 φ0 H2 φ2) (q : ∀ v H φ, EnvOk K B H σ ρ φ → Ev H0 φ0 H φ → Rp K H v d → Q v H) (s : Same H2 H') (r : RK K k H2 H' v d) :
    Q v H' ∨ ∃ a xs, v = .ref a ∧ H' a = some (.lst xs) ∧ ∀ o, Q v (upd H' a (.frz o (.lst xs))) := by
  have new : (∃ a xs ds, v = .ref a ∧ d = .list ds ∧ H2 a = none ∧ H' a = some (.lst xs) ∧ Rps K H' xs ds) → Q v H' ∨ ∃ a xs, v = .ref a ∧ H' a = some (.lst xs) ∧ ∀ o, Q v (upd H' a (.frz o (.lst xs))) := fun ⟨a, xs, ds, ev, ed, nn, ea, r2⟩ => by
    subst ev
    subst ed
    refine .inr ⟨a, xs, rfl, ea, fun o => ?_⟩
    have s2 : Same H2 (upd H' a (.frz o (.lst xs))) := fun b u z => by rw [upd_ne (ne_of_none z nn)]; exact s b u z
    have f : Firm H' (upd H' a (.frz o (.lst xs))) := ⟨fun b ys z => by rw [upd_ne (ne_of z ea (by intro z; cases z))]; exact z, fun b o u z => by rw [upd_ne (ne_of z ea (by intro z; cases z))]; exact z⟩
    exact q _ _ φ2 (E.same s2) (w.trans (Ev.same s2)) (.lst upd_same (r2.mono f))
  cases k with
  | per => exact .inl (q v H' φ2 (E.same s) (w.trans (Ev.same s)) r)
  | new => exact new r
  | fre => exact r.elim (fun r => .inl (q v H' φ2 (E.same s) (w.trans (Ev.same s)) r)) new
  | any => exact absurd rfl hk
def xOut (d : Option PyData) (ρ : Rho) : XOut := match d with
  | some d => .val d ρ
  | none => .stuck
def xUn (f : PyData → Option PyData) (m : MX) : MX := fun ρ => match m ρ with
  | .val x ρ1 => xOut (f x) ρ1
  | o => o
def xBin (f : PyData → PyData → Option PyData) (m n : MX) : MX := fun ρ => match m ρ with
  | .val x ρ1 => match n ρ1 with
    | .val y ρ2 => xOut (f x y) ρ2
    | o => o
  | o => o
theorem PostX.out {K : PySem.W.Frag} {σ : L2.St} {Q : VK} {H : Hp} {φ : Nat → Addr → Prop} {d : Option PyData} {ρ : Rho} (h : PostX K B W σ Q H φ (xOut d ρ)) : ∃ y, d = some y ∧ ∀ v H1 φ1, EnvOk K B H1 σ ρ φ1 → Ev H φ H1 φ1 → Rp K H1 v y → Q v H1 := by
  cases d with
  | none => exact h.elim
  | some y => exact ⟨y, rfl, h⟩
/-- one argument's reading -/
theorem tX_val {σ : L2.St} {H : Hp} {Q Q' : VK} {ρ : Rho} {φ : Nat → Addr → Prop} {f : PyData → Rho → XOut} (E : EnvOk X.K B H σ ρ φ) (q : PostX X.K B W σ Q H φ (match mx ρ with
    | .val x ρ1 => f x ρ1
    | o => o)) (h : ∀ v x ρ1 H1 φ1, EnvOk X.K B H1 σ ρ1 φ1 → Ev H φ H1 φ1 → Rp X.K H1 v x → PostX X.K B W σ Q H φ (f x ρ1) → Q' v H1) : tX X.K B W mx σ H Q' := by
  refine ⟨ρ, φ, E, ?_⟩
  cases e1 : mx ρ with
  | stuck => rw [e1] at q; exact q.elim
  | ex c ρ1 => rw [e1] at q; exact q
  | val x ρ1 => rw [e1] at q; exact fun v H1 φ1 E1 w r => h v x ρ1 H1 φ1 E1 w r q
theorem px_op {op : Operator} {r : R2} {f : PyData → PyData → Option PyData} (hk : k ≠ .any) (ho : OpR X (binaryOp op) r) (hr : R2m X.K k r f) (ha : PXm X B W a mx) (hb : PXm X B W b nx) : PXm X B W (.BinOp a op b pos) (xBin f mx nx) := (pe_frz (pe_op ho ha hb)).weak fun σ H Q ⟨ρ, φ, E, q⟩ => by
  refine tX_val (f := fun x ρ1 => match nx ρ1 with
    | .val y ρ2 => xOut (f x y) ρ2
    | o => o) E q fun v x ρ1 H1 φ1 E1 w1 r1 q => tX_val (f := fun y ρ2 => xOut (f x y) ρ2) E1 (q.mono w1) fun u y ρ2 H2 φ2 E2 w2 r2 q => ?_
  obtain ⟨d, h, q⟩ := q.out
  exact hr v u H2 _ x y d (.per (r1.mono (w2.firm E1))) (.per r2) h fun v' H' s r => out_frz hk E2 w2 q s r
theorem px_cmp {op : CmpOp} {r : R2} {f : PyData → PyData → Option PyData} (ho : OpR X (compareOp op) r) (hr : R2m X.K .per r f) (ha : PXm X B W a mx) (hb : PXm X B W b nx) (hm : behindInMarks op b = false) : PXm X B W (.Compare a [op] [b] pos) (xBin f mx nx) := (pe_frz (pe_cmpR ho ha hb hm)).weak fun σ H Q ⟨ρ, φ, E, q⟩ => by
  refine tX_val (f := fun x ρ1 => match nx ρ1 with
    | .val y ρ2 => xOut (f x y) ρ2
    | o => o) E q fun v x ρ1 H1 φ1 E1 w1 r1 q => tX_val (f := fun y ρ2 => xOut (f x y) ρ2) E1 (q.mono w1) fun u y ρ2 H2 φ2 E2 w2 r2 q => ?_
  obtain ⟨d, h, q⟩ := q.out
  exact hr v u H2 _ x y d (.per (r1.mono (w2.firm E1))) (.per r2) h fun v' H' s r => out_frz (k := .per) (by intro z; cases z) E2 w2 q s r
theorem px_ix (ha : PXm X B W a mx) (hb : PXm X B W b nx) (hs : PlainIx b := by intro _ _; rfl) : PXm X B W (.Subscript a b pos) (xBin ixM mx nx) := (pe_frz (pe_ix ix_seq ha hb hs)).weak fun σ H Q ⟨ρ, φ, E, q⟩ => by
  refine tX_val (f := fun x ρ1 => match nx ρ1 with
    | .val y ρ2 => xOut (ixM x y) ρ2
    | o => o) E q fun v x ρ1 H1 φ1 E1 w1 r1 q => tX_val (f := fun y ρ2 => xOut (ixM x y) ρ2) E1 (q.mono w1) fun u y ρ2 H2 φ2 E2 w2 r2 q => ?_
  obtain ⟨d, h, q⟩ := q.out
  exact r2_ix v u H2 _ x y d (.per (r1.mono (w2.firm E1))) (.per r2) h fun v' H' s r => out_frz (k := .per) (by intro z; cases z) E2 w2 q s r
theorem px_b1 {id : String} {r : List V → Hp → VK → Prop} {f : PyData → Option PyData} (hk : k ≠ .any) (hc : CallR X (.builtin id) r) (hr : R1m X.K k r f) (hv : bootBuiltins x = some (.builtin id)) (hm : X.mg x = none) (hg : Gl X x) (ha : PXm X B W e mx)
    (hs : starEach [e] X.env = [(false, eval e X.env)] := by rfl) (hn : x ≠ "__name__" := by decide) (hdb : (x == ("__debug__" : Str)) = false := by decide) : PXm X B W (.Call (.Name x p) [e] [] pos) (xUn f mx) :=
  (pe_frz (pe_callB hc hg hm hv (pa_cons ha pa_nil hs) hn hdb hs)).weak fun σ H Q ⟨ρ, φ, E, q⟩ => tX_val (f := fun x ρ1 => xOut (f x) ρ1) E q fun v x ρ1 H1 φ1 E1 w1 r1 q => by
    obtain ⟨d, h, q⟩ := q.out
    exact hr v H1 _ x d (.per r1) h fun v' H' s r => out_frz hk E1 w1 q s r
theorem px_t1 {T : String} {r : List V → Hp → VK → Prop} {f : PyData → Option PyData} (hk : k ≠ .any) (hc : CallR X (.type T) r) (hr : R1m X.K k r f) (hv : bootBuiltins x = some (.type T)) (hm : X.mg x = none) (hg : Gl X x) (ha : PXm X B W e mx)
    (hs : starEach [e] X.env = [(false, eval e X.env)] := by rfl) (hn : x ≠ "__name__" := by decide) (hdb : (x == ("__debug__" : Str)) = false := by decide) : PXm X B W (.Call (.Name x p) [e] [] pos) (xUn f mx) :=
  (pe_frz (pe_callTy hc hg hm hv (pa_cons ha pa_nil hs) hn hdb hs)).weak fun σ H Q ⟨ρ, φ, E, q⟩ => tX_val (f := fun x ρ1 => xOut (f x) ρ1) E q fun v x ρ1 H1 φ1 E1 w1 r1 q => by
    obtain ⟨d, h, q⟩ := q.out
    exact hr v H1 _ x d (.per r1) h fun v' H' s r => out_frz hk E1 w1 q s r
def dsOf : List XA → Option (List PyData)
  | [] => some []
  | .d d :: as => (dsOf as).map (d :: ·)
  | _ => none
theorem ArgR.rps {K : PySem.W.Frag} {H : Hp} {σ : L2.St} : ∀ {vs : List V} {as : List XA} {ds : List PyData}, ArgR K H σ vs as → dsOf as = some ds → Rps K H vs ds
  | _, _, _, .nil, h => by cases h; exact .nil
  | _, _, _, .d z t, h => by obtain ⟨ds, h1, rfl⟩ := Option.map_eq_some_iff.mp h; exact .cons z (ArgR.rps t h1)
  | _, _, _, .o _ _, h => by cases h
  | _, _, _, .r _ _, h => by cases h
  | _, _, _, .b _ _, h => by cases h
def xTup (ms : MXs) : MX := fun ρ => match ms ρ with
  | .vals as ρ1 => xOut ((dsOf as).bind fun ds => if ds.length ≤ 100 then some (.tuple ds) else none) ρ1
  | .ex c ρ1 => .ex c ρ1
  | .stuck => .stuck
theorem px_tup {j : Nat} (h : PXs X B W es ms) : PXm X B W (.Tuple es j pos) (xTup ms) := (pe_tup h).weak fun σ H Q ⟨ρ, φ, E, q⟩ => by
  refine ⟨ρ, φ, E, ?_⟩
  unfold xTup at q
  cases e1 : ms ρ with
  | stuck => rw [e1] at q; exact q.elim
  | ex c ρ1 => rw [e1] at q; exact q
  | vals as ρ1 =>
    rw [e1] at q
    intro vs H1 φ1 E1 w1 r1
    obtain ⟨d, h, q⟩ := PostX.out q
    obtain ⟨ds, h1, h⟩ := Option.bind_eq_some_iff.mp h
    have r := r1.rps h1
    obtain ⟨hl, rfl⟩ := some_if h
    exact ⟨line100 (by rw [r.length]; exact hl), fun p hp => q _ _ φ1 (E1.same (same_new hp _)) (w1.trans (Ev.same (same_new hp _))) (.tup (.of upd_same) (r.mono (firm (same_new hp _))))⟩
/-! ### tests -/
inductive XTOut where
  | val (b : Bool) (ρ : Rho) | ex (c : Str) (ρ : Rho) | stuck
abbrev MXT := Rho → XTOut
def PostT (K : PySem.W.Frag) (B : Bd) (W : WX) (σ : L2.St) (Q : Bool → Hp → Prop) (H0 : Hp) (φ0 : Nat → Addr → Prop) : XTOut → Prop
  | .val b ρ => ∀ H φ, EnvOk K B H σ ρ φ → Ev H0 φ0 H φ → Q b H
  | .ex c ρ => ∀ H φ, EnvOk K B H σ ρ φ → Ev H0 φ0 H φ → W (.ref (He.ga K c)) none σ H
  | .stuck => False
theorem PostT.mono {K : PySem.W.Frag} {σ : L2.St} {Q : Bool → Hp → Prop} {H H1 : Hp} {φ φ1 : Nat → Addr → Prop} {o : XTOut} (h : PostT K B W σ Q H φ o) (v : Ev H φ H1 φ1) : PostT K B W σ Q H1 φ1 o := by
  cases o with
  | val d ρ => exact fun H' φ' E w => h H' φ' E (v.trans w)
  | ex c ρ => exact fun H' φ' E w => h H' φ' E (v.trans w)
  | stuck => exact h
def tXT (K : PySem.W.Frag) (B : Bd) (W : WX) (m : MXT) : TT := fun σ H Q => ∃ ρ φ, EnvOk K B H σ ρ φ ∧ PostT K B W σ Q H φ (m ρ)
abbrev PXTm (X : Cx) (B : Bd) (W : WX) (e : Expr) (m : MXT) : Prop := PT X e (tXT X.K B W m)
abbrev PXWm (X : Cx) (B : Bd) (W : WX) (e : Expr) (m : MXT) : Prop := PW X e (tXT X.K B W m)
def xT (m : MT) : MXT := fun ρ => match m ρ with
  | some b => .val b ρ
  | none => .stuck
theorem pxt (h : PTm X B.xo e mt) : PXTm X B W e (xT mt) := h.weak fun σ H Q ⟨ρ, φ, E, q⟩ => by
  unfold xT at q
  cases e1 : mt ρ with
  | none => rw [e1] at q; exact q.elim
  | some d => rw [e1] at q; exact ⟨ρ, d, E.rd, e1, fun H' s => q H' φ (E.same s) (Ev.same s)⟩
def xTest (m : MX) : MXT := fun ρ => match m ρ with
  | .val (.bool b) ρ1 => .val b ρ1
  | .ex c ρ1 => .ex c ρ1
  | _ => .stuck
theorem pxt_val (h : PXm X B W e mx) (he : ∀ whole, isTrue e X.env whole = (do let v ← whole; standAt e.pos; holding [v] (truthy v)) := by intro _; rfl) : PXTm X B W e (xTest mx) := (pt_val h he).weak fun σ H Q ⟨ρ, φ, E, q⟩ => by
  refine ⟨ρ, φ, E, ?_⟩
  unfold xTest at q
  cases e1 : mx ρ with
  | stuck => rw [e1] at q; exact q.elim
  | ex c ρ1 => rw [e1] at q; exact q
  | val d ρ1 =>
    rw [e1] at q
    intro v H1 φ1 E1 w1 r1
    cases d with
    | bool b => cases r1; exact ⟨b, rfl, q H1 φ1 E1 w1⟩
    | _ => exact q.elim
def xAndT (m n : MXT) : MXT := fun ρ => match m ρ with
  | .val true ρ1 => n ρ1
  | o => o
def xOrT (m n : MXT) : MXT := fun ρ => match m ρ with
  | .val false ρ1 => n ρ1
  | o => o
def xNotT (m : MXT) : MXT := fun ρ => match m ρ with
  | .val b ρ1 => .val (!b) ρ1
  | o => o
variable {tm tn : MXT}
theorem pxt_and1 (ha : PXTm X B W a tm) : PXWm X B W (.BoolOp .And [a] pos) tm := pw_and1 ha
theorem pxt_or1 (ha : PXTm X B W a tm) : PXWm X B W (.BoolOp .Or [a] pos) tm := pw_or1 ha
theorem pxt_and (ha : PXTm X B W a tm) (hb : PXWm X B W (.BoolOp .And (b :: es) pos) tn) : PXWm X B W (.BoolOp .And (a :: b :: es) pos) (xAndT tm tn) := (pw_and ha hb).weak fun σ H Q ⟨ρ, φ, E, q⟩ => by
  refine ⟨ρ, φ, E, ?_⟩
  unfold xAndT at q
  cases e1 : tm ρ with
  | stuck => rw [e1] at q; exact q.elim
  | ex c ρ1 => rw [e1] at q; exact q
  | val x ρ1 =>
    rw [e1] at q
    intro H1 φ1 E1 w1
    cases x with
    | true => exact ⟨ρ1, φ1, E1, PostT.mono q w1⟩
    | false => exact q H1 φ1 E1 w1
theorem pxt_or (ha : PXTm X B W a tm) (hb : PXWm X B W (.BoolOp .Or (b :: es) pos) tn) : PXWm X B W (.BoolOp .Or (a :: b :: es) pos) (xOrT tm tn) := (pw_or ha hb).weak fun σ H Q ⟨ρ, φ, E, q⟩ => by
  refine ⟨ρ, φ, E, ?_⟩
  unfold xOrT at q
  cases e1 : tm ρ with
  | stuck => rw [e1] at q; exact q.elim
  | ex c ρ1 => rw [e1] at q; exact q
  | val x ρ1 =>
    rw [e1] at q
    intro H1 φ1 E1 w1
    cases x with
    | true => exact q H1 φ1 E1 w1
    | false => exact ⟨ρ1, φ1, E1, PostT.mono q w1⟩
theorem pxt_not (ha : PXTm X B W a tm) : PXTm X B W (.UnaryOp .Not a pos) (xNotT tm) := (pt_not ha).weak fun σ H Q ⟨ρ, φ, E, q⟩ => by
  refine ⟨ρ, φ, E, ?_⟩
  unfold xNotT at q
  cases e1 : tm ρ with
  | stuck => rw [e1] at q; exact q.elim
  | ex c ρ1 => rw [e1] at q; exact q
  | val x ρ1 => rw [e1] at q; exact q
/-! ### statements -/
def sAsgX (i : Nat) (m : MX) : MS := fun ρ => match m ρ with
  | .val d ρ1 => if isO ρ1[i]? = true then .stuck else .nx (ρ1.set i (.d d))
  | .ex c ρ1 => .ex c ρ1
  | .stuck => .stuck
theorem sm_setX {i : Nat} {y : Str} {pos' : Pos} (hN : X.N.Nodup) (hi : X.N[i]? = some y) (hx : Loc X.env.scope y) (he : PXm X B W e mx) (hs : swapsWith e (some (.Name y pos')) pos.line X.env = pure false := by rfl)
    (hf : X.fn y = true ∨ X.env.scope.names.lookup y = some .local := by first | exact .inl rfl | exact .inr rfl | assumption) : PSm X B W rk (.Assign [.Name y pos'] e pos) (sAsgX i mx) := (ps_set hN hi hx he hs hf).weak fun D σ H ⟨ρ, φ, E, q⟩ => by
  refine ⟨ρ, φ, E, ?_⟩
  unfold sAsgX at q
  cases e1 : mx ρ with
  | stuck => rw [e1] at q; exact q.elim
  | ex c ρ1 => rw [e1] at q; exact q σ
  | val d ρ1 =>
    rw [e1] at q
    intro v H1 φ1 E1 w1 r1
    simp only at q
    by_cases ho : isO ρ1[i]? = true
    · rw [if_pos ho] at q; exact q.elim
    · rw [if_neg ho] at q
      exact q _ _ _ (E1.setD (isO_no (Bool.eq_false_iff.mpr ho)) r1) w1
def sRetX (m : MX) : MS := fun ρ => match m ρ with
  | .val d ρ1 => .rt d ρ1
  | .ex c ρ1 => .ex c ρ1
  | .stuck => .stuck
theorem sm_retX (he : PXm X B W e mx) (hrk : rk ≠ .new := by intro z; cases z) : PSm X B W rk (.Return (some e) pos) (sRetX mx) := (ps_ret he).weak fun D σ H ⟨ρ, φ, E, q⟩ => by
  refine ⟨ρ, φ, E, ?_⟩
  unfold sRetX at q
  cases e1 : mx ρ with
  | stuck => rw [e1] at q; exact q.elim
  | ex c ρ1 => rw [e1] at q; exact q σ
  | val d ρ1 =>
    rw [e1] at q
    intro v H1 φ1 E1 w1 r1
    refine q v σ H1 φ1 E1 ?_
    cases rk with
    | per => exact r1
    | new => exact absurd rfl hrk
    | _ => exact .inl r1
def sDoX (m : MX) : MS := fun ρ => match m ρ with
  | .val _ ρ1 => .nx ρ1
  | .ex c ρ1 => .ex c ρ1
  | .stuck => .stuck
theorem sm_doX (he : PXm X B W e mx) (hs : swapsWith e none pos.line X.env = pure false := by rfl) : PSm X B W rk (.Expr e pos) (sDoX mx) := (ps_expr he hs).weak fun D σ H ⟨ρ, φ, E, q⟩ => by
  refine ⟨ρ, φ, E, ?_⟩
  unfold sDoX at q
  cases e1 : mx ρ with
  | stuck => rw [e1] at q; exact q.elim
  | ex c ρ1 => rw [e1] at q; exact q σ
  | val d ρ1 =>
    rw [e1] at q
    exact fun v H1 φ1 E1 w1 r1 => q σ H1 φ1 E1 w1
def sIfX (t : MXT) (a b : MS) : MS := fun ρ => match t ρ with
  | .val true ρ1 => a ρ1
  | .val false ρ1 => b ρ1
  | .ex c ρ1 => .ex c ρ1
  | .stuck => .stuck
theorem sm_ifX (hc : PXTm X B W c tm) (ha : PSsm X B W rk body s1) (hb : PSsm X B W rk els s2) : PSm X B W rk (.If c body els pos) (sIfX tm s1 s2) := (ps_if hc ha hb).weak fun D σ H ⟨ρ, φ, E, q⟩ => by
  refine ⟨ρ, φ, E, ?_⟩
  unfold sIfX at q
  cases e1 : tm ρ with
  | stuck => rw [e1] at q; exact q.elim
  | ex c ρ1 => rw [e1] at q; exact q σ
  | val x ρ1 =>
    rw [e1] at q
    intro H1 φ1 E1 w1
    cases x with
    | true => exact ⟨ρ1, φ1, E1, Post.mono q w1⟩
    | false => exact ⟨ρ1, φ1, E1, Post.mono q w1⟩
def sAppX (i : Nat) (m : MX) : MS := fun ρ => match ρ[i]? with
  | some (.o (.lst _)) => match m ρ with
    | .val d ρ1 => match ρ1[i]? with
      | some (.o (.lst ds)) => if ds.length < sizeLine then .nx (ρ1.set i (.o (.lst (ds ++ [d])))) else .stuck
      | _ => .stuck
    | .ex c ρ1 => .ex c ρ1
    | .stuck => .stuck
  | _ => .stuck
theorem sm_appX {i : Nat} {o : Expr} (hbm : PE X (.Call (.Attribute o "append" apos) [e] [] p) (tBM X.K "list" rAppend (tVar i) (tCons (tX X.K B W mx) tNil)))
    (hq : swapsWith (.Call (.Attribute o "append" apos) [e] [] p) none pos.line X.env = pure false := by rfl) :
    PSm X B W rk (.Expr (.Call (.Attribute o "append" apos) [e] [] p) pos) (sAppX i mx) := (ps_expr hbm hq).weak fun D σ H ⟨ρ, φ, E, q⟩ => by
  unfold sAppX at q
  split at q
  · rename_i ds0 h0
    obtain ⟨a, e0, r0⟩ := E.own h0
    generalize hfp0 : φ i = fp0 at r0
    cases r0 with
    | @lst _ xs0 _ ea0 r0 =>
      refine ⟨_, e0, .inl ⟨rfl, _, SqL.of ea0⟩, ρ, φ, E, ?_⟩
      cases e1 : mx ρ with
      | stuck => rw [e1] at q; exact q.elim
      | ex c ρ1 => rw [e1] at q; exact q σ
      | val d ρ1 =>
        rw [e1] at q
        intro v H' φ1 E1 w1 rv
        simp only at q
        split at q
        · rename_i ds h1
          by_cases h3 : ds.length < sizeLine
          · rw [if_pos h3] at q
            obtain ⟨a', e1', r⟩ := E1.own h1
            rw [e0] at e1'
            cases e1'
            generalize hfp : φ1 i = fp at r
            cases r with
            | @lst _ xs _ ea r =>
              have k : ∀ b o, ¬ φ1 i b → H' b = some o → upd H' a (.lst (xs ++ [v])) b = some o := fun b o n z => by
                have n' : b ≠ a := fun e => n (by rw [hfp]; exact e)
                rw [upd_ne n']; exact z
              have f : Firm H' (upd H' a (.lst (xs ++ [v]))) := ⟨fun b ys z => by rw [upd_ne (ne_of z ea (by intro z; cases z))]; exact z, fun b o u z => by rw [upd_ne (ne_of z ea (by intro z; cases z))]; exact z⟩
              have sb : ∀ b, b = a → φ1 i b ∨ H' b = none := fun b z => .inl (by rw [hfp]; exact z)
              refine ⟨a, xs, v, rfl, rfl, ea, by rw [r.length]; exact h3, q _ _ _ (EnvOk.turn E1 h1 e0 k (.lst upd_same ((r.append (Rps.one rv)).mono f)) sb fun b z => ?_) (w1.trans (Ev.turn (K := X.K) k sb))⟩
              rw [hfp] at z
              have z : b = a := z
              subst z
              exact ⟨_, upd_same⟩
          · rw [if_neg h3] at q; exact q.elim
        · exact q.elim
  · exact q.elim
end
end PL

namespace PL
open PySem PySem.Spec PyProof.Rows L2
/-! ### raise -/
/-- an own class of errors over ValueError -/
structure ErrC (K : PySem.W.Frag) (mg : Str → Option Value) (c : Str) : Prop where
  g : mg c = some (.ref (He.ga K c))
  q : PySem.W.excIn K (He.ga K c) He.veBase "ValueError.__new__" = true
  k : PySem.W.keepIn K (.ref (He.ga K c)) = true
  b : PySem.W.subIn K (.ref (He.ga K c)) (.type "BaseException") = some true
  t : PySem.W.typeIn K (.ref (He.ga K c)) = some (.type "type")
section
variable {X : Cx} {B : Bd} {W : WX} {rk : Kd} {st : Stmt} {rest body els : List Stmt} {e a b c : Expr} {es : List Expr} {m ma mb : ME} {mx nx : MX} {ms : MXs} {mt : MT} {s1 s2 : MS} {k k1 k2 : Kd} {pos p p2 apos : Pos} {x : Str} {n : Nat} {fm : FM}
def sExc (c : Str) : MS := fun ρ => .ex c ρ
theorem sm_raise {c t : Str} {j : Nat} (hc : X.calm = true) (tk : Takes X W) (F : ErrC X.K X.mg c) (hg : Gl X c) (hdb : (c == ("__debug__" : Str)) = false := by decide) : PSm X B W rk (.Raise (some (.Call (.Name c p) [.Constant (.str t) j p2] [] apos)) none pos) (sExc c) :=
  (ps_raise hc tk (pmk_own PySem.F.excBase_ValueError F.q F.g F.k (raises_own F.b F.t) hg hdb)).weak fun D σ H ⟨ρ, φ, E, q⟩ => q σ H φ E (Ev.refl _ _)
/-! ### try -/
/-- is an error of the class c one of C? -/
def subE (c C : Str) : Bool := c == C || C == ("HallError" : Str)
def W0 : WX := fun _ _ _ _ => False
/-- an except clause without a name -/
inductive HdM (X : Cx) (B : Bd) (rk : Kd) (es : List Str) : List ExceptHandler → List (Str × MS) → Prop
  | nil : HdM X B rk es [] []
  | cons {C : Str} {h : MS} {b₀ : Stmt} {suite : List Stmt} {np pos' : Pos} {hds : List ExceptHandler} {l : List (Str × MS)} (hc : Names X C (.ref (He.ga X.K C))) (hx : ∀ c, es.contains c = true → PySem.W.exmOne X.K (.ref (He.ga X.K c)) (.ref (He.ga X.K C)) = some (subE c C))
      (hsu : ∀ (a : Addr) (oe : Obj) (pn : List (Addr × Obj)), PSsm (X.suite a ((a, oe) :: pn)) B W0 rk (b₀ :: suite) h) (r : HdM X B rk es hds l) : HdM X B rk es (.ExceptHandler (some (.Name C np)) none (b₀ :: suite) pos' :: hds) ((C, h) :: l)
def hdL (K : PySem.W.Frag) (B : Bd) (rk : Kd) (l : List (Str × MS)) : List (Value × (Addr → Value → Option Addr → TS)) := l.map fun q => (.ref (He.ga K q.1), fun _ _ _ => tS K B W0 rk q.2)
theorem HdM.ok {es : List Str} {hds : List ExceptHandler} {l : List (Str × MS)} (h : HdM X B rk es hds l) : HdsOk X hds (hdL X.K B rk l) := by
  induction h with
  | nil => exact .nil
  | cons hc _ hsu _ ih => exact .cons hc (fun a oe cls d pn _ _ => hsu a oe pn) ih
theorem Post.w0 {K : PySem.W.Frag} {D : Ends} {H : Hp} {φ : Nat → Addr → Prop} {o : Out} (h : Post K B W rk D H φ o) (n : ∀ c ρ, o ≠ .ex c ρ) : Post K B W0 rk D H φ o := by
  cases o with
  | ex c ρ => exact absurd rfl (n c ρ)
  | _ => exact h
/-- what a suite raises is not told -/
def noEx : Out → Out
  | .ex _ _ => .stuck
  | o => o
def sHds (es : List Str) : List (Str × MS) → Str → MS
  | [], c => fun ρ => .ex c ρ
  | (C, h) :: hs, c => fun ρ => if es.contains c = true then (if subE c C = true then noEx (h ρ) else sHds es hs c ρ) else .stuck
theorem HdM.reads {es : List Str} {hds : List ExceptHandler} {l : List (Str × MS)} (h : HdM X B rk es hds l) {D : Ends} {c : Str} {ρ : Rho} {H0 : Hp} {φ0 : Nat → Addr → Prop} (q : Post X.K B W rk D H0 φ0 (sHds es l c ρ)) {σ : L2.St} {H : Hp} {φ : Nat → Addr → Prop} (E : EnvOk X.K B H σ ρ φ) (v : Ev H0 φ0 H φ) :
    wMany X.K W D (hdL X.K B rk l) (.ref (He.ga X.K c)) none σ H := by
  induction h with
  | nil => exact q σ H φ E v
  | @cons C h b₀ suite np pos' hds l hc hx hsu r ih =>
    unfold sHds at q
    by_cases hk : es.contains c = true
    · rw [if_pos hk] at q
      refine ⟨subE c C, hx c hk, fun hb a na => ?_, fun hb => ih ?_⟩
      · rw [if_pos hb] at q
        refine ⟨ρ, φ, E, ?_⟩
        show Post X.K B W0 rk D H φ (h ρ)
        generalize h ρ = o at q ⊢
        cases o with
        | ex c ρ1 => exact q.elim
        | stuck => exact q.elim
        | nx ρ1 => exact fun σ' H' φ' E' v' => q σ' H' φ' E' (v.trans v')
        | bk ρ1 => exact fun σ' H' φ' E' v' => q σ' H' φ' E' (v.trans v')
        | ct ρ1 => exact fun σ' H' φ' E' v' => q σ' H' φ' E' (v.trans v')
        | rt d ρ1 => exact q
      · rw [if_neg (by rw [hb]; exact Bool.false_ne_true)] at q
        exact q
    · rw [if_neg hk] at q
      exact q.elim
def sTry (es : List Str) (body : MS) (hs : List (Str × MS)) : MS := fun ρ => match body ρ with
  | .ex c ρ1 => sHds es hs c ρ1
  | o => o
theorem sm_try {es : List Str} {h₀ : ExceptHandler} {hds : List ExceptHandler} {l : List (Str × MS)} (hs : X.stack = X.env :: X.outer) (hf : X.env.frame = some X.env.locals) (tk : Takes X W)
    (hb : ∀ (W : WX) (pn : List (Addr × Obj)) (xe : Value → Shared → Prop), Takes (X.tr pn xe) W → PassesOwn (model X.prog X.w) X.A X.env xe → PSsm (X.tr pn xe) B W rk body s1) (hh : HdM X B rk es (h₀ :: hds) l) :
    PSm X B W rk (.Try body (h₀ :: hds) [] [] pos) (sTry es s1 l) := (ps_try_many (tb := fun W => tS X.K B W rk s1) hs hf tk hb hh.ok).weak fun D σ H ⟨ρ, φ, E, q⟩ => by
  refine ⟨ρ, φ, E, ?_⟩
  unfold sTry at q
  cases e1 : s1 ρ with
  | ex c ρ1 => rw [e1] at q; exact fun σ' H' φ' E' v' => hh.reads q E' v'
  | stuck => rw [e1] at q; exact q.elim
  | nx ρ1 => rw [e1] at q; exact q
  | bk ρ1 => rw [e1] at q; exact q
  | ct ρ1 => rw [e1] at q; exact q
  | rt d ρ1 => rw [e1] at q; exact q
/-! ### try .. except C as n -/
def wipeO (i : Nat) : Out → Out
  | .nx ρ => if isO ρ[i]? = true then .stuck else .nx (ρ.set i .nil)
  | .bk ρ => if isO ρ[i]? = true then .stuck else .bk (ρ.set i .nil)
  | .ct ρ => if isO ρ[i]? = true then .stuck else .ct (ρ.set i .nil)
  | .rt d ρ => if isO ρ[i]? = true then .stuck else .rt d (ρ.set i .nil)
  | _ => .stuck
def sTryAs (es : List Str) (i : Nat) (C : Str) (body h : MS) : MS := fun ρ => match body ρ with
  | .ex c ρ1 => if es.contains c = true then (if subE c C = true then (if isO ρ1[i]? = true then .stuck else wipeO i (h (ρ1.set i (.x c)))) else .ex c ρ1) else .stuck
  | o => o
def Bd.cau (B : Bd) (i : Nat) (p : Addr × Obj) : Bd := { B with xo := fun j => if j = i then some p else B.xo j }
theorem EnvOk.setNil {K : PySem.W.Frag} {H : Hp} {σ : L2.St} {ρ : Rho} {φ : Nat → Addr → Prop} {i : Nat} {q : Addr × Obj} (h : EnvOk K (B.cau i q) H σ ρ φ) (hn : ∀ ob, ρ[i]? ≠ some (.o ob)) (v : Option V) : EnvOk K B H (σ.set i v) (ρ.set i .nil) φ := by
  refine ⟨by simp [h.len], fun j s q => ?_, fun j q => h.out j (by rw [List.getElem?_eq_none_iff] at q ⊢; simpa using q), h.dis, h.frm, h.frz, h.sub, fun j x q => ?_, fun j c q => ?_⟩
  · by_cases e : i = j
    · subst e
      have hl : i < ρ.length := by
        have := (List.getElem?_eq_some_iff.mp q).1
        simpa using this
      rw [List.getElem?_set_self hl] at q
      cases q
      exact .nil (h.notOwn hn)
    · rw [List.getElem?_set_ne e] at q
      rw [List.getElem?_set_ne e]
      exact h.sl j s q
  · have e : i ≠ j := fun e => by subst e; have := h.notIo hn; rw [show B.io i = (B.cau i _).io i from rfl, this] at q; cases q
    rw [List.getElem?_set_ne e, List.getElem?_set_ne e]
    exact h.io j x q
  · by_cases e : i = j
    · subst e
      by_cases hl : i < ρ.length
      · rw [List.getElem?_set_self hl] at q; cases q
      · rw [List.getElem?_eq_none (by simpa using hl)] at q; cases q
    · rw [List.getElem?_set_ne e] at q ⊢
      obtain ⟨a, oe, z1, z2⟩ := h.xo j c q
      refine ⟨a, oe, ?_, z2⟩
      have z1 : (if j = i then some _ else B.xo j) = some (a, oe) := z1
      rwa [if_neg (Ne.symm e)] at z1
theorem EnvOk.setX {K : PySem.W.Frag} {H : Hp} {σ : L2.St} {ρ : Rho} {φ : Nat → Addr → Prop} {i : Nat} {c : Str} {a : Addr} {oe : Obj} (h : EnvOk K B H σ ρ φ) (hn : ∀ ob, ρ[i]? ≠ some (.o ob)) (hz : Zc (.ref (He.ga K c)) none oe) (hf : ∃ vs, oe.data = .fields vs) :
    EnvOk K (B.cau i (a, oe)) H (σ.set i (some (.ref a))) (ρ.set i (.x c)) φ := by
  refine ⟨by simp [h.len], fun j s q => ?_, fun j q => h.out j (by rw [List.getElem?_eq_none_iff] at q ⊢; simpa using q), h.dis, h.frm, h.frz, h.sub, fun j x q => ?_, fun j c' q => ?_⟩
  · by_cases e : i = j
    · subst e
      have hl : i < ρ.length := by
        have := (List.getElem?_eq_some_iff.mp q).1
        simpa using this
      rw [List.getElem?_set_self hl] at q
      cases q
      exact .x (h.notOwn hn)
    · rw [List.getElem?_set_ne e] at q
      rw [List.getElem?_set_ne e]
      exact h.sl j s q
  · have e : i ≠ j := fun e => by subst e; have := h.notIo hn; rw [show (B.cau i (a, oe)).io i = B.io i from rfl, this] at q; cases q
    rw [List.getElem?_set_ne e, List.getElem?_set_ne e]
    exact h.io j x q
  · by_cases e : i = j
    · subst e
      by_cases hl : i < ρ.length
      · rw [List.getElem?_set_self hl] at q
        cases q
        exact ⟨a, oe, if_pos rfl, List.getElem?_set_self (by rw [h.len]; exact hl), hz, hf⟩
      · rw [List.getElem?_eq_none (by simpa using hl)] at q; cases q
    · rw [List.getElem?_set_ne e] at q ⊢
      obtain ⟨a', oe', z1, z2⟩ := h.xo j c' q
      exact ⟨a', oe', by show (if j = i then _ else _) = _; rw [if_neg (Ne.symm e)]; exact z1, z2⟩
theorem sm_tryAs {es : List Str} {i : Nat} {nm C : Str} {b₀ : Stmt} {suite : List Stmt} {np pos' : Pos} (hs : X.stack = X.env :: X.outer) (hf : X.env.frame = some X.env.locals) (hN : X.N.Nodup) (hi : X.N[i]? = some nm) (hln : X.env.kindOf nm = some .local)
    (hc : Names X C (.ref (He.ga X.K C))) (hx : ∀ c, es.contains c = true → PySem.W.exmOne X.K (.ref (He.ga X.K c)) (.ref (He.ga X.K C)) = some (subE c C)) (tk : Takes X W)
    (hb : ∀ (W : WX) (pn : List (Addr × Obj)) (xe : Value → Shared → Prop), Takes (X.tr pn xe) W → PassesOwn (model X.prog X.w) X.A X.env xe → PSsm (X.tr pn xe) B W rk body s1)
    (hsu : ∀ (a : Addr) (oe : Obj) (pn : List (Addr × Obj)), PSsm (X.suite a ((a, oe) :: pn)) (B.cau i (a, oe)) W0 rk (b₀ :: suite) s2) :
    PSm X B W rk (.Try body [.ExceptHandler (some (.Name C np)) (some nm) (b₀ :: suite) pos'] [] [] pos) (sTryAs es i C s1 s2) :=
  (ps_try_as (tb := fun W => tS X.K B W rk s1) (ts := fun a cls d D σ H => ∀ oe, Zc cls d oe → (∃ vs, oe.data = .fields vs) → tS X.K (B.cau i (a, oe)) W0 rk s2 D σ H) hs hf hN hi hln hc tk hb (fun a oe cls d pn hz hfl => (hsu a oe pn).weak fun D σ H h => h oe hz hfl)).weak fun D σ H ⟨ρ, φ, E, q⟩ => by
    refine ⟨ρ, φ, E, ?_⟩
    unfold sTryAs at q
    cases e1 : s1 ρ with
    | stuck => rw [e1] at q; exact q.elim
    | nx ρ1 => rw [e1] at q; exact q
    | bk ρ1 => rw [e1] at q; exact q
    | ct ρ1 => rw [e1] at q; exact q
    | rt d ρ1 => rw [e1] at q; exact q
    | ex c ρ1 =>
      rw [e1] at q
      intro σ' H' φ' E' v'
      have q : Post X.K B W rk D H φ (if es.contains c = true then (if subE c C = true then (if isO ρ1[i]? = true then .stuck else wipeO i (s2 (ρ1.set i (.x c)))) else .ex c ρ1) else .stuck) := q
      by_cases hk : es.contains c = true
      · rw [if_pos hk] at q
        refine ⟨subE c C, hx c hk, fun hb a na oe hz hfl => ?_, fun hb => ?_⟩
        · rw [if_pos hb] at q
          by_cases ho : isO ρ1[i]? = true
          · rw [if_pos ho] at q; exact q.elim
          · rw [if_neg ho] at q
            refine ⟨_, φ', E'.setX (isO_no (Bool.eq_false_iff.mpr ho)) hz hfl, ?_⟩
            generalize s2 (ρ1.set i (.x c)) = o at q
            have cut : ∀ {ρ2 : Rho} {f : Rho → Out}, Post X.K B W rk D H φ (if isO ρ2[i]? = true then .stuck else f (ρ2.set i .nil)) → (∀ ob, ρ2[i]? ≠ some (.o ob)) ∧ Post X.K B W rk D H φ (f (ρ2.set i .nil)) := fun {ρ2 f} q => by
              by_cases h2 : isO ρ2[i]? = true
              · rw [if_pos h2] at q; exact q.elim
              · rw [if_neg h2] at q; exact ⟨isO_no (Bool.eq_false_iff.mpr h2), q⟩
            have self : ∀ {σ2 : L2.St} {ρ2 : Rho} {H2 : Hp} {φ2 : Nat → Addr → Prop}, EnvOk X.K (B.cau i (a, oe)) H2 σ2 ρ2 φ2 → (∀ ob, ρ2[i]? ≠ some (.o ob)) → ∃ v, EnvOk X.K B H2 σ2 (ρ2.set i .nil) φ2 := fun {σ2 ρ2 H2 φ2} E2 hn => by
              refine ⟨(), ?_⟩
              have z := E2.setNil hn (σ2[i]?.getD none)
              have e : σ2.set i (σ2[i]?.getD none) = σ2 := by
                apply List.ext_getElem?
                intro j
                by_cases ej : i = j
                · subst ej
                  by_cases hl : i < σ2.length
                  · rw [List.getElem?_set_self hl, List.getElem?_eq_getElem hl]; rfl
                  · rw [List.getElem?_eq_none (by simpa using hl), List.getElem?_eq_none (by omega)]
                · rw [List.getElem?_set_ne ej]
              rwa [e] at z
            cases o with
            | stuck => exact q.elim
            | ex c ρ2 => exact q.elim
            | nx ρ2 => obtain ⟨hn, q⟩ := cut (f := .nx) q; exact fun σ2 H2 φ2 E2 v2 => q _ H2 φ2 (E2.setNil hn none) (v'.trans v2)
            | bk ρ2 => obtain ⟨hn, q⟩ := cut (f := .bk) q; exact fun σ2 H2 φ2 E2 v2 => q _ H2 φ2 (E2.setNil hn none) (v'.trans v2)
            | ct ρ2 => obtain ⟨hn, q⟩ := cut (f := .ct) q; exact fun σ2 H2 φ2 E2 v2 => q _ H2 φ2 (E2.setNil hn none) (v'.trans v2)
            | rt d ρ2 =>
              obtain ⟨hn, q⟩ := cut (f := .rt d) q
              intro v σ2 H2 φ2 E2 r2
              obtain ⟨_, z⟩ := self E2 hn
              exact q v σ2 H2 φ2 z r2
        · rw [if_neg (by rw [hb]; exact Bool.false_ne_true)] at q
          exact q σ' H' φ' E' v'
      · rw [if_neg hk] at q
        exact q.elim
end
end PL

namespace PL
open PySem PySem.Spec PyProof.Rows L2
/-! ### isinstance(e, C) of what is caught -/
def excCB (K : PySem.W.Frag) (D : Addr) : Bool := He.eqO (PySem.W.findIn K (.ref D) "__getattribute__") (some (some (.builtin "BaseException.__getattribute__"))) && (He.eqO (PySem.W.findIn K (.ref D) "__getattr__") (some none) && (decide (PySem.W.subIn K (.ref D) (.type "BaseException") = some true) &&
  (PySem.W.hasDictIn K D && (He.eqO (PySem.W.findIn K (.ref D) "__class__") (some (some (.builtin "object.__class__"))) && (He.eqO (PySem.W.specialIn K (.builtin "object.__class__") "__get__") (some (some (.builtin "getset_descriptor.__get__"))) &&
  (decide (PySem.W.takesIn K (.builtin "object.__class__") = some true) && decide (PySem.W.mroIn K D (.type "object") = some true)))))))
theorem excCB_ok {K : PySem.W.Frag} {D : Addr} (h : excCB K D = true) : ExcC K D := by
  obtain ⟨h1, h⟩ := He.ba h
  obtain ⟨h2, h⟩ := He.ba h
  obtain ⟨h3, h⟩ := He.ba h
  obtain ⟨h4, h⟩ := He.ba h
  obtain ⟨h5, h⟩ := He.ba h
  obtain ⟨h6, h⟩ := He.ba h
  obtain ⟨h7, h8⟩ := He.ba h
  exact ⟨He.eqO_ok h1, He.eqO_ok h2, of_decide_eq_true h3, h4, He.eqO_ok h5, He.eqO_ok h6, of_decide_eq_true h7, of_decide_eq_true h8⟩
/-- the errors' classes, and what they are kinds of -/
def errB (es Cs : List Str) (K : PySem.W.Frag) : Bool := es.all fun c => excCB K (He.ga K c) && (decide (PySem.W.kitOne K (.ref (He.ga K c)) (.type "ValueError") = some true) && Cs.all fun C => decide (PySem.W.kitOne K (.ref (He.ga K c)) (.ref (He.ga K C)) = some (subE c C)) &&
  decide (PySem.W.exmOne K (.ref (He.ga K c)) (.ref (He.ga K C)) = some (subE c C)))
structure ErrK (K : PySem.W.Frag) (es Cs : List Str) : Prop where
  h : errB es Cs K = true
section
variable {K : PySem.W.Frag} {es Cs : List Str} {c C : Str}
theorem ErrK.exc (F : ErrK K es Cs) (hc : es.contains c = true) : ExcC K (He.ga K c) := excCB_ok (He.ba (List.all_eq_true.mp F.h c (List.contains_iff_mem.mp hc))).1
theorem ErrK.val (F : ErrK K es Cs) (hc : es.contains c = true) : PySem.W.kitOne K (.ref (He.ga K c)) (.type "ValueError") = some true := of_decide_eq_true (He.ba (He.ba (List.all_eq_true.mp F.h c (List.contains_iff_mem.mp hc))).2).1
theorem ErrK.kit (F : ErrK K es Cs) (hc : es.contains c = true) (hC : Cs.contains C = true) : PySem.W.kitOne K (.ref (He.ga K c)) (.ref (He.ga K C)) = some (subE c C) :=
  of_decide_eq_true (He.ba (List.all_eq_true.mp (He.ba (He.ba (List.all_eq_true.mp F.h c (List.contains_iff_mem.mp hc))).2).2 C (List.contains_iff_mem.mp hC))).1
theorem ErrK.exm (F : ErrK K es Cs) (hC : Cs.contains C = true) (c : Str) (hc : es.contains c = true) : PySem.W.exmOne K (.ref (He.ga K c)) (.ref (He.ga K C)) = some (subE c C) :=
  of_decide_eq_true (He.ba (List.all_eq_true.mp (He.ba (He.ba (List.all_eq_true.mp F.h c (List.contains_iff_mem.mp hc))).2).2 C (List.contains_iff_mem.mp hC))).2
end
def mIsE (es : List Str) (i : Nat) (f : Str → Bool) : ME := fun ρ => match ρ[i]? with
  | some (.x c) => if es.contains c = true then some (.bool (f c)) else none
  | _ => none
section
variable {X : Cx} {B : Bd} {a : Addr} {oe : Obj} {pn : List (Addr × Obj)} {i : Nat} {es Cs : List Str} {nm C : Str} {p p1 p2 pos : Pos}
def rIsX (K : PySem.W.Frag) (a : Addr) (oe : Obj) : List V → Hp → VK → Prop := fun xs H Q => ∃ D, ExcC K D ∧ Zc (.ref D) none oe ∧ (∃ vs, oe.data = .fields vs) ∧ rIsE K D a xs H Q
theorem call_isX : CallR (X.suite a ((a, oe) :: pn)) (.builtin "isinstance") (rIsX X.K a oe) := by
  intro pins s σ H xs us Q I r h
  obtain ⟨D, hC, hz, hf, h⟩ := h
  exact call_isE hC hz hf pins s σ H xs us Q I r h
theorem pm_isX {v : V} {cv : Value} {f : Str → Bool} (hm : X.mg "isinstance" = none) (hg : Gl X "isinstance") (hv : ∀ u, RelV v u → u = cv) (hN : X.N[i]? = some nm) (hvis : Vis X.env.scope nm) (hd : (nm == ("__debug__" : Str)) = false) (hcd : (nm == ("__classdict__" : Str)) = false)
    (hc : PE (X.suite a ((a, oe) :: pn)) (.Name C p2) (tC v)) (hk : ∀ c, es.contains c = true → ExcC X.K (He.ga X.K c) ∧ PySem.W.kitOne X.K (.ref (He.ga X.K c)) cv = some (f c))
    (hs : starEach [.Name nm p1, .Name C p2] X.env = (false, eval (.Name nm p1) X.env) :: starEach [.Name C p2] X.env := by rfl) (hs2 : starEach [.Name C p2] X.env = [(false, eval (.Name C p2) X.env)] := by rfl) :
    PEm (X.suite a ((a, oe) :: pn)) (B.cau i (a, oe)).xo .per (.Call (.Name "isinstance" p) [.Name nm p1, .Name C p2] [] pos) (mIsE es i f) :=
  (pe_callB call_isX hg hm boot_isinstance (pa_cons (pe_var (X := X.suite a ((a, oe) :: pn)) (i := i) hN hvis hd hcd) (pa_cons hc pa_nil hs2) hs) (by decide) (by decide) hs (by rw [hs2]; rfl)).weak fun σ H Q ⟨ρ, d, R, q, z⟩ => by
    unfold mIsE at q
    split at q
    · rename_i c e1
      obtain ⟨hes, rfl⟩ := some_if q
      obtain ⟨a', oe', z1, z2, z3, z4⟩ := R.xo i c e1
      have z1 : (if i = i then some (a, oe) else B.xo i) = some (a', oe') := z1
      rw [if_pos rfl] at z1
      cases z1
      obtain ⟨k1, k2⟩ := hk c hes
      exact ⟨_, z2, _, k1, z3, z4, v, cv, f c, rfl, hv, k2, z _ _ (Same.refl H) (.bl _)⟩
    · cases q
/-- C an own class of errors -/
theorem pm_isE (F : ErrK X.K es Cs) (hC : Cs.contains C = true) (hm : X.mg "isinstance" = none) (hg : Gl X "isinstance") (hN : X.N[i]? = some nm) (hmC : X.mg C = some (.ref (He.ga X.K C))) (hgC : Gl X C) (hvis : Vis X.env.scope nm := by first | exact Or.inl rfl | exact Or.inr (Or.inl rfl) | exact Or.inr (Or.inr rfl))
    (hd : (nm == ("__debug__" : Str)) = false := by decide) (hcd : (nm == ("__classdict__" : Str)) = false := by decide) (hdC : (C == ("__debug__" : Str)) = false := by decide)
    (hs : starEach [.Name nm p1, .Name C p2] X.env = (false, eval (.Name nm p1) X.env) :: starEach [.Name C p2] X.env := by rfl) (hs2 : starEach [.Name C p2] X.env = [(false, eval (.Name C p2) X.env)] := by rfl) :
    PEm (X.suite a ((a, oe) :: pn)) (B.cau i (a, oe)).xo .per (.Call (.Name "isinstance" p) [.Name nm p1, .Name C p2] [] pos) (mIsE es i (subE · C)) :=
  pm_isX (v := .ref (He.ga X.K C)) hm hg (fun u h => h) hN hvis hd hcd (pe_glob (X := X.suite a ((a, oe) :: pn)) (v := .ref (He.ga X.K C)) hgC hmC rfl hdC) (fun c hc => ⟨F.exc hc, F.kit hc hC⟩) hs hs2
theorem pm_isV (F : ErrK X.K es Cs) (hm : X.mg "isinstance" = none) (hg : Gl X "isinstance") (hN : X.N[i]? = some nm) (hmC : X.mg "ValueError" = none) (hgC : Gl X "ValueError") (hvis : Vis X.env.scope nm := by first | exact Or.inl rfl | exact Or.inr (Or.inl rfl) | exact Or.inr (Or.inr rfl))
    (hd : (nm == ("__debug__" : Str)) = false := by decide) (hcd : (nm == ("__classdict__" : Str)) = false := by decide) (hboot : bootBuiltins "ValueError" = some (.type "ValueError") := by decide +kernel)
    (hs : starEach [.Name nm p1, .Name "ValueError" p2] X.env = (false, eval (.Name nm p1) X.env) :: starEach [.Name "ValueError" p2] X.env := by rfl) (hs2 : starEach [.Name "ValueError" p2] X.env = [(false, eval (.Name "ValueError" p2) X.env)] := by rfl) :
    PEm (X.suite a ((a, oe) :: pn)) (B.cau i (a, oe)).xo .per (.Call (.Name "isinstance" p) [.Name nm p1, .Name "ValueError" p2] [] pos) (mIsE es i fun _ => true) :=
  pm_isX (v := .ty "ValueError") hm hg (fun u h => h) hN hvis hd hcd (pe_bltn (X := X.suite a ((a, oe) :: pn)) (v := .ty "ValueError") hgC hmC hboot rfl (by decide) (by decide)) (fun c hc => ⟨F.exc hc, F.val hc⟩) hs hs2
end
/-! ### a head that looks at the errors' classes too -/
def obsX (ex : PySem.W.Frag → Bool) (fa : List He.Fa) (fn : List He.DefD) (K : PySem.W.Frag) : He.AlD := (ex K && (He.obsD fa fn K).1, (He.obsD fa fn K).2)
def SaysX (ex : PySem.W.Frag → Bool) (fa : List He.Fa) (fn : List He.DefD) (K : PySem.W.Frag) : Prop := obsX ex fa fn K = He.valD fn
def obsXG (n : Nat) (ex : PySem.W.Frag → Bool) (fa : List He.Fa) (fn : List He.DefD) (g : Addr → Option Obj) : He.AlD := obsX ex fa fn (He.frG g (He.asD g n))
def hookX (n : Nat) (ex : PySem.W.Frag → Bool) (fa : List He.Fa) (fn : List He.DefD) : PySem.W.Hook :=
  { α := He.AlD, obs := fun s => obsXG n ex fa fn s.heap.get?, val := fun _ => He.valD fn, says := fun _ h => ∃ K : PySem.W.Frag, K.In h ∧ SaysX ex fa fn K, of := fun _ _ e => ⟨_, He.frG_in, e⟩, keeps := fun _ _ _ ⟨K, hK, c⟩ k => ⟨K, PySem.W.Frag.In.keeps hK k, c⟩ }
theorem obsXG_eq {n : Nat} {ex : PySem.W.Frag → Bool} {fa : List He.Fa} {fn : List He.DefD} {g : Addr → Option Obj} {s : Shared} (h : ∀ a, g a = s.heap.get? a) : obsXG n ex fa fn g = (hookX n ex fa fn).obs s := by
  rw [show g = s.heap.get? from funext h] <;> rfl
theorem SaysX.d {ex : PySem.W.Frag → Bool} {fa : List He.Fa} {fn : List He.DefD} {K : PySem.W.Frag} (h : SaysX ex fa fn K) : ex K = true ∧ He.SaysD fa fn K := by
  have h1 : (ex K && (He.obsD fa fn K).1) = true := congrArg (fun z : He.AlD => z.1) h
  obtain ⟨h2, h3⟩ := He.ba h1
  have h4 : (obsX ex fa fn K).2 = (He.valD fn).2 := congrArg (fun z : He.AlD => z.2) (show obsX ex fa fn K = He.valD fn from h)
  exact ⟨h2, Prod.ext h3 h4⟩
end PL

/- PL, the part for instances -/
namespace PL
open PySem PySem.Spec PyProof.Rows L2
/-! ### an instance's fields -/
def putFl (f : Str) (x : Fl) : List (Str × Fl) → List (Str × Fl)
  | [] => [(f, x)]
  | (g, y) :: r => if g = f then (g, x) :: r else (g, y) :: putFl f x r
section
variable {K : PySem.W.Frag} {H H' : Hp}
theorem FlsRep.len {fs : List (Str × Fl)} {vs : List (Str × V)} {fp : Addr → Prop} (h : FlsRep K H fs vs fp) : vs.length = fs.length := by
  induction h with
  | nil => rfl
  | d _ _ ih => simp [ih]
  | l _ _ _ _ ih => simp [ih]
  | m _ _ _ _ ih => simp [ih]
theorem FlsRep.isL {fs : List (Str × Fl)} {vs : List (Str × V)} {fp : Addr → Prop} (h : FlsRep K H fs vs fp) : ∀ b, fp b → ∃ o, H b = some o ∧ ∀ C dx gs, o ≠ .ins C dx gs := by
  induction h with
  | nil => exact fun _ z => z.elim
  | d _ _ ih => exact ih
  | l e _ _ _ ih =>
    intro b hb
    rcases hb with z | z
    · subst z; exact ⟨_, e, fun _ _ _ z => by cases z⟩
    · exact ih b z
  | m e _ _ _ ih =>
    intro b hb
    rcases hb with z | z
    · subst z; exact ⟨_, e, fun _ _ _ z => by cases z⟩
    · exact ih b z
theorem FlsRep.lookD {fs : List (Str × Fl)} {vs : List (Str × V)} {fp : Addr → Prop} (h : FlsRep K H fs vs fp) {f : Str} {d : PyData} (e : fs.lookup f = some (.d d)) : ∃ v, vs.lookup f = some v ∧ Rp K H v d := by
  induction h with
  | nil => cases e
  | @d n d' v fs vs fp r _ ih =>
    rw [List.lookup_cons] at e ⊢
    cases hn : (f == n) with
    | true => rw [hn] at e; cases e; exact ⟨v, rfl, r⟩
    | false => rw [hn] at e; exact ih e
  | @l n ds xs a fs vs fp _ _ _ _ ih =>
    rw [List.lookup_cons] at e ⊢
    cases hn : (f == n) with
    | true => rw [hn] at e; cases e
    | false => rw [hn] at e; exact ih e
  | @m n pw kvs es a fs vs fp _ _ _ _ ih =>
    rw [List.lookup_cons] at e ⊢
    cases hn : (f == n) with
    | true => rw [hn] at e; cases e
    | false => rw [hn] at e; exact ih e
theorem FlsRep.lookL {fs : List (Str × Fl)} {vs : List (Str × V)} {fp : Addr → Prop} (h : FlsRep K H fs vs fp) {f : Str} {ds : List PyData} (e : fs.lookup f = some (.l ds)) : ∃ a xs, vs.lookup f = some (.ref a) ∧ H a = some (.lst xs) ∧ Rps K H xs ds ∧ fp a := by
  induction h with
  | nil => cases e
  | @d n d' v fs vs fp r _ ih =>
    rw [List.lookup_cons] at e ⊢
    cases hn : (f == n) with
    | true => rw [hn] at e; cases e
    | false => rw [hn] at e; exact ih e
  | @l n ds' xs a fs vs fp h1 h2 _ _ ih =>
    rw [List.lookup_cons] at e ⊢
    cases hn : (f == n) with
    | true => rw [hn] at e; cases e; exact ⟨a, xs, rfl, h1, h2, .inl rfl⟩
    | false =>
      rw [hn] at e
      obtain ⟨b, ys, q1, q2, q3, q4⟩ := ih e
      exact ⟨b, ys, q1, q2, q3, .inr q4⟩
  | @m n pw kvs es a fs vs fp _ _ _ _ ih =>
    rw [List.lookup_cons] at e ⊢
    cases hn : (f == n) with
    | true => rw [hn] at e; cases e
    | false =>
      rw [hn] at e
      obtain ⟨b, ys, q1, q2, q3, q4⟩ := ih e
      exact ⟨b, ys, q1, q2, q3, .inr q4⟩
theorem FlsRep.lookM {fs : List (Str × Fl)} {vs : List (Str × V)} {fp : Addr → Prop} (h : FlsRep K H fs vs fp) {f : Str} {pw : PgW} {kvs : List (NestedKey × PyData)} (e : fs.lookup f = some (.m pw kvs)) : ∃ a es, vs.lookup f = some (.ref a) ∧ H a = some (.ext (mapP pw a es)) ∧ MapRep K H kvs es ∧ fp a := by
  induction h with
  | nil => cases e
  | @d n d' v fs vs fp r _ ih =>
    rw [List.lookup_cons] at e ⊢
    cases hn : (f == n) with
    | true => rw [hn] at e; cases e
    | false => rw [hn] at e; exact ih e
  | @l n ds' xs a fs vs fp _ _ _ _ ih =>
    rw [List.lookup_cons] at e ⊢
    cases hn : (f == n) with
    | true => rw [hn] at e; cases e
    | false =>
      rw [hn] at e
      obtain ⟨b, ys, q1, q2, q3, q4⟩ := ih e
      exact ⟨b, ys, q1, q2, q3, .inr q4⟩
  | @m n pw' kvs' es a fs vs fp h1 h2 _ _ ih =>
    rw [List.lookup_cons] at e ⊢
    cases hn : (f == n) with
    | true => rw [hn] at e; cases e; exact ⟨a, es, rfl, h1, h2, .inl rfl⟩
    | false =>
      rw [hn] at e
      obtain ⟨b, ys, q1, q2, q3, q4⟩ := ih e
      exact ⟨b, ys, q1, q2, q3, .inr q4⟩
theorem FlsRep.lookN {fs : List (Str × Fl)} {vs : List (Str × V)} {fp : Addr → Prop} (h : FlsRep K H fs vs fp) {f : Str} (e : fs.lookup f = none) : vs.lookup f = none := by
  induction h with
  | nil => rfl
  | @d n _ _ _ _ _ _ _ ih =>
    rw [List.lookup_cons] at e ⊢
    cases hn : (f == n) with
    | true => rw [hn] at e; cases e
    | false => rw [hn] at e; exact ih e
  | @l n _ _ _ _ _ _ _ _ _ _ ih =>
    rw [List.lookup_cons] at e ⊢
    cases hn : (f == n) with
    | true => rw [hn] at e; cases e
    | false => rw [hn] at e; exact ih e
  | @m n _ _ _ _ _ _ _ _ _ _ _ ih =>
    rw [List.lookup_cons] at e ⊢
    cases hn : (f == n) with
    | true => rw [hn] at e; cases e
    | false => rw [hn] at e; exact ih e
theorem FlsRep.putD {fs : List (Str × Fl)} {vs : List (Str × V)} {fp : Addr → Prop} (h : FlsRep K H fs vs fp) {f : Str} {v : V} {d : PyData} (r : Rp K H v d) : ∃ fp', FlsRep K H (putFl f (.d d) fs) (putF f v vs) fp' ∧ ∀ b, fp' b → fp b := by
  induction h with
  | nil => exact ⟨_, .d r .nil, fun b z => z⟩
  | @d n d' u fs vs fp r' h' ih =>
    rw [putFl, putF]
    by_cases e : n = f
    · rw [if_pos e, if_pos e]; exact ⟨_, .d r h', fun b z => z⟩
    · rw [if_neg e, if_neg e]
      obtain ⟨fp', q, s⟩ := ih
      exact ⟨_, .d r' q, s⟩
  | @l n ds xs a fs vs fp h1 h2 h3 h' ih =>
    rw [putFl, putF]
    by_cases e : n = f
    · rw [if_pos e, if_pos e]; exact ⟨_, .d r h', fun b z => .inr z⟩
    · rw [if_neg e, if_neg e]
      obtain ⟨fp', q, s⟩ := ih
      exact ⟨_, .l h1 h2 (fun z => h3 (s _ z)) q, fun b z => z.imp id (s b)⟩
  | @m n pw kvs es a fs vs fp h1 h2 h3 h' ih =>
    rw [putFl, putF]
    by_cases e : n = f
    · rw [if_pos e, if_pos e]; exact ⟨_, .d r h', fun b z => .inr z⟩
    · rw [if_neg e, if_neg e]
      obtain ⟨fp', q, s⟩ := ih
      exact ⟨_, .m h1 h2 (fun z => h3 (s _ z)) q, fun b z => z.imp id (s b)⟩
theorem FlsRep.putL {fs : List (Str × Fl)} {vs : List (Str × V)} {fp : Addr → Prop} (h : FlsRep K H fs vs fp) {f : Str} {l : Addr} {ys : List V} {es : List PyData} (e1 : H l = some (.lst ys)) (r : Rps K H ys es) (nl : ¬ fp l) : ∃ fp', FlsRep K H (putFl f (.l es) fs) (putF f (.ref l) vs) fp' ∧ ∀ b, fp' b → b = l ∨ fp b := by
  induction h with
  | nil => exact ⟨_, .l e1 r (fun z => z) .nil, fun b z => z⟩
  | @d n d' u fs vs fp r' h' ih =>
    rw [putFl, putF]
    by_cases e : n = f
    · rw [if_pos e, if_pos e]; exact ⟨_, .l e1 r nl h', fun b z => z⟩
    · rw [if_neg e, if_neg e]
      obtain ⟨fp', q, s⟩ := ih nl
      exact ⟨_, .d r' q, s⟩
  | @l n ds xs a fs vs fp h1 h2 h3 h' ih =>
    rw [putFl, putF]
    have nl' : ¬ fp l := fun z => nl (.inr z)
    by_cases e : n = f
    · rw [if_pos e, if_pos e]; exact ⟨_, .l e1 r nl' h', fun b z => z.imp id .inr⟩
    · rw [if_neg e, if_neg e]
      obtain ⟨fp', q, s⟩ := ih nl'
      refine ⟨_, .l h1 h2 (fun z => ?_) q, fun b z => z.elim (fun z => .inr (.inl z)) fun z => (s b z).imp id .inr⟩
      rcases s a z with z | z
      · exact nl (.inl z.symm)
      · exact h3 z
  | @m n pw kvs es' a fs vs fp h1 h2 h3 h' ih =>
    rw [putFl, putF]
    have nl' : ¬ fp l := fun z => nl (.inr z)
    by_cases e : n = f
    · rw [if_pos e, if_pos e]; exact ⟨_, .l e1 r nl' h', fun b z => z.imp id .inr⟩
    · rw [if_neg e, if_neg e]
      obtain ⟨fp', q, s⟩ := ih nl'
      refine ⟨_, .m h1 h2 (fun z => ?_) q, fun b z => z.elim (fun z => .inr (.inl z)) fun z => (s b z).imp id .inr⟩
      rcases s a z with z | z
      · exact nl (.inl z.symm)
      · exact h3 z
theorem FlsRep.putM {fs : List (Str × Fl)} {vs : List (Str × V)} {fp : Addr → Prop} (h : FlsRep K H fs vs fp) {f : Str} {l : Addr} {pw0 : PgW} {kvs0 : List (NestedKey × PyData)} {es0 : List (NestedKey × Addr × V)} (e1 : H l = some (.ext (mapP pw0 l es0))) (r : MapRep K H kvs0 es0) (nl : ¬ fp l) : ∃ fp', FlsRep K H (putFl f (.m pw0 kvs0) fs) (putF f (.ref l) vs) fp' ∧ ∀ b, fp' b → b = l ∨ fp b := by
  induction h with
  | nil => exact ⟨_, .m e1 r (fun z => z) .nil, fun b z => z⟩
  | @d n d' u fs vs fp r' h' ih =>
    rw [putFl, putF]
    by_cases e : n = f
    · rw [if_pos e, if_pos e]; exact ⟨_, .m e1 r nl h', fun b z => z⟩
    · rw [if_neg e, if_neg e]
      obtain ⟨fp', q, s⟩ := ih nl
      exact ⟨_, .d r' q, s⟩
  | @l n ds xs a fs vs fp h1 h2 h3 h' ih =>
    rw [putFl, putF]
    have nl' : ¬ fp l := fun z => nl (.inr z)
    by_cases e : n = f
    · rw [if_pos e, if_pos e]; exact ⟨_, .m e1 r nl' h', fun b z => z.imp id .inr⟩
    · rw [if_neg e, if_neg e]
      obtain ⟨fp', q, s⟩ := ih nl'
      refine ⟨_, .l h1 h2 (fun z => ?_) q, fun b z => z.elim (fun z => .inr (.inl z)) fun z => (s b z).imp id .inr⟩
      rcases s a z with z | z
      · exact nl (.inl z.symm)
      · exact h3 z
  | @m n pw kvs es' a fs vs fp h1 h2 h3 h' ih =>
    rw [putFl, putF]
    have nl' : ¬ fp l := fun z => nl (.inr z)
    by_cases e : n = f
    · rw [if_pos e, if_pos e]; exact ⟨_, .m e1 r nl' h', fun b z => z.imp id .inr⟩
    · rw [if_neg e, if_neg e]
      obtain ⟨fp', q, s⟩ := ih nl'
      refine ⟨_, .m h1 h2 (fun z => ?_) q, fun b z => z.elim (fun z => .inr (.inl z)) fun z => (s b z).imp id .inr⟩
      rcases s a z with z | z
      · exact nl (.inl z.symm)
      · exact h3 z
/-- a field's list grows where it stands -/
theorem FlsRep.grow {fs : List (Str × Fl)} {vs : List (Str × V)} {fp : Addr → Prop} (h : FlsRep K H fs vs fp) {f : Str} {ds : List PyData} {v : V} {d : PyData} (e : fs.lookup f = some (.l ds)) (rv : Rp K H v d) : ∃ a xs, vs.lookup f = some (.ref a) ∧ H a = some (.lst xs) ∧ xs.length = ds.length ∧ fp a ∧
    FlsRep K (upd H a (.lst (xs ++ [v]))) (putFl f (.l (ds ++ [d])) fs) vs fp := by
  have fm : ∀ {a : Addr} {xs ys : List V}, H a = some (.lst xs) → Firm H (upd H a (.lst ys)) := fun q2 => ⟨fun b ys z => by rw [upd_ne (ne_of z q2 (by intro z; cases z))]; exact z, fun b o u z => by rw [upd_ne (ne_of z q2 (by intro z; cases z))]; exact z⟩
  induction h with
  | nil => cases e
  | @d n d' u fs vs fp r _ ih =>
    rw [List.lookup_cons] at e ⊢
    rw [putFl]
    cases hn : (f == n) with
    | true => rw [hn] at e; cases e
    | false =>
      rw [hn] at e
      rw [if_neg (fun z => by subst z; simp at hn)]
      obtain ⟨a, xs, q1, q2, q3, q4, q6⟩ := ih e
      exact ⟨a, xs, q1, q2, q3, q4, .d (r.mono (fm q2)) q6⟩
  | @l n ds' xs a fs vs fp h1 h2 h3 h' ih =>
    rw [List.lookup_cons] at e ⊢
    rw [putFl]
    cases hn : (f == n) with
    | true =>
      rw [hn] at e
      cases e
      have en : n = f := (eq_of_beq hn).symm
      rw [if_pos en]
      subst en
      exact ⟨a, xs, rfl, h1, h2.length, .inl rfl, .l upd_same ((h2.append (Rps.one rv)).mono (fm h1)) h3 (h'.mono (fm h1) fun b o hb z => by rw [upd_ne (fun q => h3 (by rw [← q]; exact hb))]; exact z)⟩
    | false =>
      rw [hn] at e
      rw [if_neg (fun z => by subst z; simp at hn)]
      obtain ⟨b, ys, q1, q2, q3, q4, q6⟩ := ih e
      have nb : a ≠ b := fun z => h3 (by rw [z]; exact q4)
      exact ⟨b, ys, q1, q2, q3, .inr q4, .l (by rw [upd_ne nb]; exact h1) (h2.mono (fm q2)) h3 q6⟩
  | @m n pw kvs es a fs vs fp h1 h2 h3 h' ih =>
    rw [List.lookup_cons] at e ⊢
    rw [putFl]
    cases hn : (f == n) with
    | true => rw [hn] at e; cases e
    | false =>
      rw [hn] at e
      rw [if_neg (fun z => by subst z; simp at hn)]
      obtain ⟨b, ys, q1, q2, q3, q4, q6⟩ := ih e
      have nb : a ≠ b := fun z => h3 (by rw [z]; exact q4)
      exact ⟨b, ys, q1, q2, q3, .inr q4, .m (by rw [upd_ne nb]; exact h1) (h2.mono (fm q2)) h3 q6⟩
/-- a field's dict turns where it stands -/
theorem FlsRep.turnM {fs : List (Str × Fl)} {vs : List (Str × V)} {fp : Addr → Prop} (h : FlsRep K H fs vs fp) {f : Str} {pw : PgW} {kvs : List (NestedKey × PyData)} (e : fs.lookup f = some (.m pw kvs)) : ∃ a es, vs.lookup f = some (.ref a) ∧ H a = some (.ext (mapP pw a es)) ∧ MapRep K H kvs es ∧ fp a ∧
    ∀ kvs' es', MapRep K H kvs' es' → FlsRep K (upd H a (.ext (mapP pw a es'))) (putFl f (.m pw kvs') fs) vs fp := by
  have fm : ∀ {a : Addr} {es es' : List (NestedKey × Addr × V)}, H a = some (.ext (mapP pw a es)) → Firm H (upd H a (.ext (mapP pw a es'))) := fun q2 => ⟨fun b ys z => by rw [upd_ne (ne_of z q2 (by intro z; cases z))]; exact z, fun b o u z => by rw [upd_ne (ne_of z q2 (by intro z; cases z))]; exact z⟩
  induction h with
  | nil => cases e
  | @d n d' u fs vs fp r _ ih =>
    rw [List.lookup_cons] at e ⊢
    cases hn : (f == n) with
    | true => rw [hn] at e; cases e
    | false =>
      rw [hn] at e
      obtain ⟨a, es, q1, q2, q3, q4, q6⟩ := ih e
      exact ⟨a, es, q1, q2, q3, q4, fun kvs' es' r' => by rw [putFl, if_neg (fun z => by subst z; simp at hn)]; exact .d (r.mono (fm q2)) (q6 kvs' es' r')⟩
  | @l n ds' xs a fs vs fp h1 h2 h3 h' ih =>
    rw [List.lookup_cons] at e ⊢
    cases hn : (f == n) with
    | true => rw [hn] at e; cases e
    | false =>
      rw [hn] at e
      obtain ⟨b, es, q1, q2, q3, q4, q6⟩ := ih e
      have nb : a ≠ b := fun z => h3 (by rw [z]; exact q4)
      exact ⟨b, es, q1, q2, q3, .inr q4, fun kvs' es' r' => by rw [putFl, if_neg (fun z => by subst z; simp at hn)]; exact .l (by rw [upd_ne nb]; exact h1) (h2.mono (fm q2)) h3 (q6 kvs' es' r')⟩
  | @m n pw' kvs0 es0 a fs vs fp h1 h2 h3 h' ih =>
    rw [List.lookup_cons] at e ⊢
    cases hn : (f == n) with
    | true =>
      rw [hn] at e
      cases e
      have en : n = f := (eq_of_beq hn).symm
      subst en
      exact ⟨a, es0, rfl, h1, h2, .inl rfl, fun kvs' es' r' => by rw [putFl, if_pos rfl]; exact .m upd_same (r'.mono (fm h1)) h3 (h'.mono (fm h1) fun b o hb z => by rw [upd_ne (fun q => h3 (by rw [← q]; exact hb))]; exact z)⟩
    | false =>
      rw [hn] at e
      obtain ⟨b, es, q1, q2, q3, q4, q6⟩ := ih e
      have nb : a ≠ b := fun z => h3 (by rw [z]; exact q4)
      exact ⟨b, es, q1, q2, q3, .inr q4, fun kvs' es' r' => by rw [putFl, if_neg (fun z => by subst z; simp at hn)]; exact .m (by rw [upd_ne nb]; exact h1) (h2.mono (fm q2)) h3 (q6 kvs' es' r')⟩
end
/-! ### o.f -/
def insOf : Option Sl → Option (Str × List (Str × Fl))
  | some (.o (.ins C fs)) => some (C, fs)
  | some (.r (.ins C fs)) => some (C, fs)
  | _ => none
theorem RdOk.ins {K : PySem.W.Frag} {xo : XO} {H : Hp} {σ : L2.St} {ρ : Rho} {i : Nat} {C : Str} {fs : List (Str × Fl)} (R : RdOk K xo H σ ρ) (e : insOf ρ[i]? = some (C, fs)) : ∃ x dx vs fp, σ[i]? = some (some (.ref x)) ∧ H x = some (.ins (He.ga K C) dx vs) ∧ FlsRep K H fs vs fp := by
  cases q : ρ[i]? with
  | none => rw [q] at e; cases e
  | some s =>
    rw [q] at e
    have r := R.rd i s q
    cases s with
    | o ob =>
      cases ob with
      | lst ds => cases e
      | dct ks => cases e
      | map _ _ => cases e
      | two _ _ => cases e
      | pr _ _ => cases e
      | shl => cases e
      | ins C' fs' =>
        cases e
        generalize σ[i]? = w at r ⊢
        cases r with | o r => cases r with | ins h1 h2 h3 => exact ⟨_, _, _, _, rfl, h1, h3⟩
    | r ob =>
      cases ob with
      | lst ds => cases e
      | dct ks => cases e
      | map _ _ => cases e
      | two _ _ => cases e
      | pr _ _ => cases e
      | shl => cases e
      | ins C' fs' =>
        cases e
        generalize σ[i]? = w at r ⊢
        cases r with | r r => cases r with | ins h1 h2 h3 => exact ⟨_, _, _, _, rfl, h1, h3⟩
    | _ => cases e
/-- a field of data -/
def mAttrD (i : Nat) (C f : Str) : ME := fun ρ => match insOf ρ[i]? with
  | some (C', fs) => if C' = C then (match fs.lookup f with
    | some (.d d) => some d
    | _ => none) else none
  | none => none
/-- a field that is a list of its own -/
def mAttrL (i : Nat) (C f : Str) : ME := fun ρ => match insOf ρ[i]? with
  | some (C', fs) => if C' = C then (match fs.lookup f with
    | some (.l ds) => some (.list ds)
    | _ => none) else none
  | none => none
section
variable {X : Cx} {xo : XO} {B : Bd} {W : WX} {rk : Kd} {e o : Expr} {es : List Expr} {m : ME} {mx : MX} {ms : MXs} {k k1 : Kd} {pos p apos : Pos} {x y C f : Str} {n i : Nat} {fm : FM}
theorem pm_attrD (c : Cls X.K (He.ga X.K C)) (na : NoAttr X.K (He.ga X.K C) f) (hN : X.N[i]? = some y) (hv : Vis X.env.scope y := by first | exact Or.inl rfl | exact Or.inr (Or.inl rfl) | exact Or.inr (Or.inr rfl)) (hd : (y == ("__debug__" : Str)) = false := by decide) (hcd : (y == ("__classdict__" : Str)) = false := by decide)
    (hb : attributeBase (.Name y p) f X.env (eval (.Name y p) X.env) = eval (.Name y p) X.env := by rfl) : PEm X xo .per (.Attribute (.Name y p) f pos) (mAttrD i C f) := (pe_fld (pe_var (i := i) hN hv hd hcd) hb).weak fun σ H Q ⟨ρ, d, R, q, z⟩ => by
  unfold mAttrD at q
  cases e1 : insOf ρ[i]? with
  | none => rw [e1] at q; cases q
  | some t =>
    obtain ⟨C', fs⟩ := t
    rw [e1] at q
    by_cases hC : C' = C
    · subst hC
      simp only [if_true] at q
      obtain ⟨x, dx, vs, fp, h1, h2, h3⟩ := R.ins e1
      cases e2 : fs.lookup f with
      | none => rw [e2] at q; cases q
      | some w =>
        rw [e2] at q
        cases w with
        | l ds => cases q
        | m _ _ => cases q
        | d d' =>
          cases q
          obtain ⟨v, q1, q2⟩ := h3.lookD e2
          exact ⟨_, h1, x, _, dx, vs, v, rfl, h2, c, na, q1, z _ _ (Same.refl H) q2⟩
    · simp only [if_neg hC] at q; cases q
theorem pm_attrL (c : Cls X.K (He.ga X.K C)) (na : NoAttr X.K (He.ga X.K C) f) (hN : X.N[i]? = some y) (hv : Vis X.env.scope y := by first | exact Or.inl rfl | exact Or.inr (Or.inl rfl) | exact Or.inr (Or.inr rfl)) (hd : (y == ("__debug__" : Str)) = false := by decide) (hcd : (y == ("__classdict__" : Str)) = false := by decide)
    (hb : attributeBase (.Name y p) f X.env (eval (.Name y p) X.env) = eval (.Name y p) X.env := by rfl) : PEm X xo .any (.Attribute (.Name y p) f pos) (mAttrL i C f) := (pe_fld (pe_var (i := i) hN hv hd hcd) hb).weak fun σ H Q ⟨ρ, d, R, q, z⟩ => by
  unfold mAttrL at q
  cases e1 : insOf ρ[i]? with
  | none => rw [e1] at q; cases q
  | some t =>
    obtain ⟨C', fs⟩ := t
    rw [e1] at q
    by_cases hC : C' = C
    · subst hC
      simp only [if_true] at q
      obtain ⟨x, dx, vs, fp, h1, h2, h3⟩ := R.ins e1
      cases e2 : fs.lookup f with
      | none => rw [e2] at q; cases q
      | some w =>
        rw [e2] at q
        cases w with
        | d d' => cases q
        | m _ _ => cases q
        | l ds =>
          cases q
          obtain ⟨a, xs, q1, q2, q3, _⟩ := h3.lookL e2
          exact ⟨_, h1, x, _, dx, vs, _, rfl, h2, c, na, q1, z _ _ (Same.refl H) (.seq (.of q2) q3)⟩
    · simp only [if_neg hC] at q; cases q
/-! ### o.f = value -/
theorem EnvOk.ins {K : PySem.W.Frag} {H : Hp} {σ : L2.St} {ρ : Rho} {φ : Nat → Addr → Prop} {fs : List (Str × Fl)} (E : EnvOk K B H σ ρ φ) (hi : ρ[i]? = some (.o (.ins C fs))) :
    ∃ x dx vs fp, σ[i]? = some (some (.ref x)) ∧ H x = some (.ins (He.ga K C) dx vs) ∧ H dx = some (.own x) ∧ FlsRep K H fs vs fp ∧ φ i = fun b => b = x ∨ b = dx ∨ fp b := by
  obtain ⟨x, h1, r⟩ := E.own hi
  generalize hfp : φ i = fp at r
  cases r with
  | ins h2 h3 h4 => exact ⟨_, _, _, _, h1, h2, h3, h4, rfl⟩
def sAttr (i : Nat) (C f : Str) (m : ME) : MS := fun ρ => match m ρ with
  | some d => match ρ[i]? with
    | some (.o (.ins C' fs)) => if C' = C ∧ fs.length < 1000 then .nx (ρ.set i (.o (.ins C (putFl f (.d d) fs)))) else .stuck
    | _ => .stuck
  | none => .stuck
theorem sm_attr (c : Cls X.K (He.ga X.K C)) (na : NoAttr X.K (He.ga X.K C) f) (hN : X.N[i]? = some y) (hm : PEm X B.xo .per e m) (hs : swapsWith e (some (.Attribute (.Name y p) f apos)) pos.line X.env = pure false := by rfl) (hv : Vis X.env.scope y := by first | exact Or.inl rfl | exact Or.inr (Or.inl rfl) | exact Or.inr (Or.inr rfl))
    (hd : (y == ("__debug__" : Str)) = false := by decide) (hcd : (y == ("__classdict__" : Str)) = false := by decide) : PSm X B W rk (.Assign [.Attribute (.Name y p) f apos] e pos) (sAttr i C f m) := (ps_fld (pe_var (i := i) hN hv hd hcd) hm hs).weak fun D σ H ⟨ρ, φ, E, q⟩ => by
  unfold sAttr at q
  cases e1 : m ρ with
  | none => rw [e1] at q; exact q.elim
  | some d =>
    rw [e1] at q
    refine ⟨ρ, d, E.rd, e1, fun v H1 s1 r1 => ?_⟩
    simp only at q
    split at q
    · rename_i C' fs h0
      by_cases hC : C' = C ∧ fs.length < 1000
      · rw [if_pos hC] at q
        obtain ⟨rfl, hl⟩ := hC
        have E1 := E.same s1
        obtain ⟨x, dx, vs, fp, h1, h2, h3, h4, h5⟩ := E1.ins h0
        refine ⟨_, h1, x, _, dx, vs, rfl, h2, c, na, by rw [h4.len]; exact hl, ?_⟩
        obtain ⟨fp', h6, h7⟩ := h4.putD (f := f) r1
        have ndx : dx ≠ x := fun z => by rw [z, h2] at h3; cases h3
        have fi : Firm H1 (upd H1 x (.ins (He.ga X.K C') dx (putF f v vs))) := ⟨fun b ys z => by rw [upd_ne (ne_of z h2 (by intro z; cases z))]; exact z, fun b o u z => by rw [upd_ne (ne_of z h2 (by intro z; cases z))]; exact z⟩
        have k : ∀ b o, ¬ φ i b → H1 b = some o → upd H1 x (.ins (He.ga X.K C') dx (putF f v vs)) b = some o := fun b o n z => by
          have n' : b ≠ x := fun e => n (by rw [h5]; exact .inl e)
          rw [upd_ne n']; exact z
        have sb : ∀ b, (b = x ∨ b = dx ∨ fp' b) → φ i b ∨ H1 b = none := fun b z => .inl (by rw [h5]; exact z.imp id (Or.imp id (h7 b)))
        refine q _ _ _ (EnvOk.turn E1 h0 h1 k (.ins upd_same (by rw [upd_ne ndx]; exact h3) (h6.mono fi fun b o hb z => ?_)) sb fun b hb => ?_) ((Ev.same s1).trans (Ev.turn (K := X.K) k sb))
        · obtain ⟨o', hy, hn⟩ := h6.isL b hb
          rw [upd_ne (ne_of hy h2 (hn _ _ _))]
          exact z
        · by_cases e : b = x
          · subst e; exact ⟨_, upd_same⟩
          · obtain ⟨o, ho, _⟩ := E1.there hb
            exact ⟨o, by rw [upd_ne e]; exact ho⟩
      · rw [if_neg hC] at q; exact q.elim
    · exact q.elim
/-- o.f = [..]: a new list, the field's own -/
def sAttrL (i : Nat) (C f : Str) (m : ME) : MS := fun ρ => match m ρ with
  | some (.list ds) => match ρ[i]? with
    | some (.o (.ins C' fs)) => if C' = C ∧ fs.length < 1000 then .nx (ρ.set i (.o (.ins C (putFl f (.l ds) fs)))) else .stuck
    | _ => .stuck
  | _ => .stuck
theorem sm_attrL (c : Cls X.K (He.ga X.K C)) (na : NoAttr X.K (He.ga X.K C) f) (hN : X.N[i]? = some y) (hm : PEm X B.xo .new e m) (hs : swapsWith e (some (.Attribute (.Name y p) f apos)) pos.line X.env = pure false := by rfl) (hv : Vis X.env.scope y := by first | exact Or.inl rfl | exact Or.inr (Or.inl rfl) | exact Or.inr (Or.inr rfl))
    (hd : (y == ("__debug__" : Str)) = false := by decide) (hcd : (y == ("__classdict__" : Str)) = false := by decide) : PSm X B W rk (.Assign [.Attribute (.Name y p) f apos] e pos) (sAttrL i C f m) := (ps_fld (pe_var (i := i) hN hv hd hcd) hm hs).weak fun D σ H ⟨ρ, φ, E, q⟩ => by
  unfold sAttrL at q
  split at q
  · rename_i ds e1
    refine ⟨ρ, _, E.rd, e1, fun v H1 s1 ⟨l, ys, es, ev, ed, nl, hl1, r1⟩ => ?_⟩
    subst ev
    cases ed
    split at q
    · rename_i C' fs h0
      by_cases hC : C' = C ∧ fs.length < 1000
      · rw [if_pos hC] at q
        obtain ⟨rfl, hl⟩ := hC
        have E1 := E.same s1
        obtain ⟨x, dx, vs, fp, h1, h2, h3, h4, h5⟩ := E1.ins h0
        refine ⟨_, h1, x, _, dx, vs, rfl, h2, c, na, by rw [h4.len]; exact hl, ?_⟩
        have nφ : ∀ j, ¬ φ j l := fun j z => by obtain ⟨o, q, _⟩ := E.there z; rw [nl] at q; cases q
        obtain ⟨fp', h6, h7⟩ := h4.putL (f := f) hl1 r1 (fun z => nφ i (by rw [h5]; exact .inr (.inr z)))
        have ndx : dx ≠ x := fun z => by rw [z, h2] at h3; cases h3
        have fi : Firm H1 (upd H1 x (.ins (He.ga X.K C') dx (putF f (.ref l) vs))) := ⟨fun b ys z => by rw [upd_ne (ne_of z h2 (by intro z; cases z))]; exact z, fun b o u z => by rw [upd_ne (ne_of z h2 (by intro z; cases z))]; exact z⟩
        have k0 : ∀ b o, ¬ φ i b → H b = some o → upd H1 x (.ins (He.ga X.K C') dx (putF f (.ref l) vs)) b = some o := fun b o n z => by
          have n' : b ≠ x := fun e => n (by rw [h5]; exact .inl e)
          rw [upd_ne n']; exact s1 b o z
        have sb : ∀ b, (b = x ∨ b = dx ∨ fp' b) → φ i b ∨ H b = none := fun b z => by
          rcases z with z | z | z
          · exact .inl (by rw [h5]; exact .inl z)
          · exact .inl (by rw [h5]; exact .inr (.inl z))
          · rcases h7 b z with z | z
            · subst z; exact .inr nl
            · exact .inl (by rw [h5]; exact .inr (.inr z))
        refine q _ _ _ (EnvOk.turn E h0 h1 k0 (.ins upd_same (by rw [upd_ne ndx]; exact h3) (h6.mono fi fun b o hb z => ?_)) sb fun b hb => ?_) (Ev.turn (K := X.K) k0 sb)
        · obtain ⟨o', hy, hn⟩ := h6.isL b hb
          rw [upd_ne (ne_of hy h2 (hn _ _ _))]
          exact z
        · by_cases e : b = x
          · subst e; exact ⟨_, upd_same⟩
          · obtain ⟨o, ho, _⟩ := E1.there hb
            exact ⟨o, by rw [upd_ne e]; exact ho⟩
      · rw [if_neg hC] at q; exact q.elim
    · exact q.elim
  · exact q.elim
/-! ### o.f.append(value) -/
def sAppF (i : Nat) (C f : Str) (m : ME) : MS := fun ρ => match ρ[i]? with
  | some (.o (.ins C' fs)) => if C' = C then (match fs.lookup f with
    | some (.l ds) => match m ρ with
      | some d => if ds.length < sizeLine then .nx (ρ.set i (.o (.ins C (putFl f (.l (ds ++ [d])) fs)))) else .stuck
      | none => .stuck
    | _ => .stuck) else .stuck
  | _ => .stuck
theorem sm_appF {p2 : Pos} (c : Cls X.K (He.ga X.K C)) (na : NoAttr X.K (He.ga X.K C) f) (hbm : PE X (.Call (.Attribute (.Attribute (.Name y p) f apos) "append" p2) [e] [] pos) (tBM X.K "list" rAppend (tFld X.K (tVar i) f) (tCons (tE X.K B.xo .per m) tNil))) {spos : Pos}
    (hq : swapsWith (.Call (.Attribute (.Attribute (.Name y p) f apos) "append" p2) [e] [] pos) none spos.line X.env = pure false := by rfl) :
    PSm X B W rk (.Expr (.Call (.Attribute (.Attribute (.Name y p) f apos) "append" p2) [e] [] pos) spos) (sAppF i C f m) := (ps_expr hbm hq).weak fun D σ H ⟨ρ, φ, E, q⟩ => by
  unfold sAppF at q
  split at q
  · rename_i C' fs h0
    by_cases hC : C' = C
    · rw [if_pos hC] at q
      subst hC
      split at q
      · rename_i ds e2
        cases e1 : m ρ with
        | none => rw [e1] at q; exact q.elim
        | some d =>
          rw [e1] at q
          simp only at q
          by_cases hz : ds.length < sizeLine
          · rw [if_pos hz] at q
            obtain ⟨x, dx, vs, fp, h1, h2, h3, h4, h5⟩ := E.ins h0
            obtain ⟨l0, xs0, g1, g2, _, _⟩ := h4.lookL e2
            refine ⟨_, h1, x, _, dx, vs, _, rfl, h2, c, na, g1, .inl ⟨rfl, _, SqL.of g2⟩, ρ, d, E.rd, e1, fun v H1 s1 r1 => ?_⟩
            have E1 := E.same s1
            have h4' := h4.mono (firm s1) fun b o _ z => s1 b o z
            obtain ⟨l, xs, q1, q2, q3, q4, q6⟩ := h4'.grow e2 r1
            rw [g1] at q1
            cases q1
            have ndx : dx ≠ l0 := fun z => by rw [z] at h3; rw [s1 _ _ h3] at q2; cases q2
            have nx : x ≠ l0 := fun z => by rw [z] at h2; rw [s1 _ _ h2] at q2; cases q2
            have hφ : φ i l0 := by rw [h5]; exact .inr (.inr q4)
            have k0 : ∀ b o, ¬ φ i b → H1 b = some o → upd H1 l0 (.lst (xs ++ [v])) b = some o := fun b o n z => by
              have n' : b ≠ l0 := fun e => n (by rw [e]; exact hφ)
              rw [upd_ne n']; exact z
            have sb : ∀ b, (b = x ∨ b = dx ∨ fp b) → φ i b ∨ H1 b = none := fun b z => .inl (by rw [h5]; exact z)
            refine ⟨l0, xs, v, rfl, rfl, q2, by rw [q3]; exact hz, q _ _ _ (EnvOk.turn E1 h0 h1 k0 (.ins (by rw [upd_ne nx]; exact s1 _ _ h2) (by rw [upd_ne ndx]; exact s1 _ _ h3) q6) sb fun b hb => ?_) ((Ev.same s1).trans (Ev.turn (K := X.K) k0 sb))⟩
            by_cases e : b = l0
            · subst e; exact ⟨_, upd_same⟩
            · obtain ⟨o, ho, _⟩ := E1.there hb
              exact ⟨o, by rw [upd_ne e]; exact ho⟩
          · rw [if_neg hz] at q; exact q.elim
      · exact q.elim
    · rw [if_neg hC] at q; exact q.elim
  · exact q.elim
end
end PL

/- PL, the part for methods and the making of instances -/
namespace PL
open PySem PySem.Spec PyProof.Rows L2
/-- a method of the class C -/
structure MtT (P : Program) (w : World) (K : PySem.W.Frag) (mg : Str → Option Value) (base : Heap) (n : Nat) (C m : Str) (rk : Kd) (fm : FM) : Prop where
  ex : ∃ (f : Addr) (fd : FuncData) (ps : List Str), FnOk P w K mg base (L2.CX P w) n f fd ps (spM K rk fm) ∧ Meth K (He.ga K C) m f ∧ Binds K fd ps []
  cls : Cls K (He.ga K C)
section
variable {X : Cx} {xo : XO} {B : Bd} {W : WX} {rk : Kd} {e o : Expr} {es : List Expr} {m : ME} {ma : MA} {mx : MX} {ms : MXs} {k k1 : Kd} {ks : List Bool} {pos p apos : Pos} {x y C nm : Str} {n i : Nat} {fm : FM}
/-- how o.m(..) is worked out -/
abbrev MetEv (X : Cx) (o : Expr) (nm : Str) (args : List Expr) (apos pos : Pos) (pl : Sem Bool) : Prop :=
  eval (.Call (.Attribute o nm apos) args [] pos) X.env = (do { let ov ← eval o X.env; standAt apos.atName; let (f, first) ← holding [ov] (getMethod ov nm pl); callWith pos f first (backTo pos (starEach args X.env)) (backToKw pos (keywordEach [] X.env)) })
/-- o.m(..) whose errors go where the frame's slots stand -/
def tMetA (C : Addr) (mn : Str) (sp : Sp) (E : L2.St → XK) (to : TE) (ta : TA) : TE := fun st H Q => to st H fun u H1 => ∃ a dx gs, u = .ref a ∧ H1 a = some (.ins C dx gs) ∧ gs.lookup mn = none ∧ ta st H1 fun us H2 => sp (u :: us) H2 Q (E st)
theorem pe_metA {Ca f : Addr} {fd : FuncData} {ps : List Str} {sp : Sp} {E : L2.St → XK} {to : TE} {ta : TA} {pl : Sem Bool} (ho : PE X o to) (c : Cls X.K Ca) (hm : Meth X.K Ca nm f) (F : FnOk X.prog X.w X.K X.mg X.base (L2.CX X.prog X.w) n f fd ps sp) (hr : Room n X.A) (hb : Binds X.K fd ps [])
    (hE : ∀ st, PassesAt (L2.CX X.prog X.w) X st (E st)) (ha : PA X (e :: es) ta) (hst : starEach (e :: es) X.env = (false, eval e X.env) :: starEach es X.env) (hpl : (backTo pos (starEach es X.env)).any (·.1) = false)
    (hev : MetEv X o nm (e :: es) apos pos pl) : PE X (.Call (.Attribute o nm apos) (e :: es) [] pos) (tMetA Ca nm sp E to ta) :=
  ⟨fun pins s st H Q I hq => PySem.W.methodCall_KW (pl := pl) (thn (ho.run pins s st H _ I hq) fun ov s1 ⟨u, H1, I1, ru, a, dx, gs, eu, ea, el, q⟩ => by
    subst eu
    have hov : ov = Value.ref a := ru
    subst hov
    exact getmeth_ok I1 ea c hm el (PySem.W.callWith_K (first := [.ref a]) (h₀ := X.base) I.ok.mod.kin hm.kp (thn (ha.run pos pins s1 st H1 _ I1 q) fun us s2 ⟨vs, H2, I2, r, q2⟩ => ⟨I2.kIn, run_fnS F hr hb (hE st) I2 (us := .ref a :: us) (vs := .ref a :: vs) (.cons rfl r) q2⟩) hst hpl)) hev⟩
theorem pe_metA0 {Ca f : Addr} {fd : FuncData} {ps : List Str} {sp : Sp} {E : L2.St → XK} {to : TE} {pl : Sem Bool} (ho : PE X o to) (c : Cls X.K Ca) (hm : Meth X.K Ca nm f) (F : FnOk X.prog X.w X.K X.mg X.base (L2.CX X.prog X.w) n f fd ps sp) (hr : Room n X.A) (hb : Binds X.K fd ps [])
    (hE : ∀ st, PassesAt (L2.CX X.prog X.w) X st (E st))
    (hev : MetEv X o nm [] apos pos pl) : PE X (.Call (.Attribute o nm apos) [] [] pos) (tMetA Ca nm sp E to tNil) :=
  ⟨fun pins s st H Q I hq => PySem.W.methodCall_KW (pl := pl) (thn (ho.run pins s st H _ I hq) fun ov s1 ⟨u, H1, I1, ru, a, dx, gs, eu, ea, el, q⟩ => by
    subst eu
    have hov : ov = Value.ref a := ru
    subst hov
    exact getmeth_ok I1 ea c hm el (PySem.W.callWith_K0 (first := [.ref a]) I1.kIn hm.kp (run_fnS F hr hb (hE st) I1 (us := [.ref a]) (vs := [.ref a]) (.cons rfl .nil) q))) hev⟩
/-! ### a method that may turn its object -/
def xMeth (C nm : Str) (a : XA) (i : Nat) (fm : FM) (ms : MXs) : MX := fun ρ => match insOf ρ[i]? with
  | some (C', fs) => if C' = C ∧ fs.lookup nm = none then xCall fm (xSlot a ms) ρ else .stuck
  | none => .stuck
theorem EnvOk.insR {K : PySem.W.Frag} {H : Hp} {σ : L2.St} {ρ : Rho} {φ : Nat → Addr → Prop} {fs : List (Str × Fl)} (E : EnvOk K B H σ ρ φ) (e : insOf ρ[i]? = some (C, fs)) : ∃ x dx vs fp, σ[i]? = some (some (.ref x)) ∧ H x = some (.ins (He.ga K C) dx vs) ∧ FlsRep K H fs vs fp := E.rd.ins e
theorem xMeth_rd {a : XA} (hi : a = .o i ∨ a = .r i) {σ : L2.St} {H : Hp} {Q : VK} (h : tX X.K B W (xMeth C nm a i fm ms) σ H Q) : tMetA (He.ga X.K C) nm (spM X.K .per fm) (WE W) (tVar i) (tXs X.K B W ms) σ H Q := by
  obtain ⟨ρ, φ, E, q⟩ := h
  unfold xMeth at q
  cases e1 : insOf ρ[i]? with
  | none => rw [e1] at q; exact q.elim
  | some t =>
    obtain ⟨C', fs⟩ := t
    rw [e1] at q
    simp only at q
    by_cases hc : C' = C ∧ fs.lookup nm = none
    · rw [if_pos hc] at q
      obtain ⟨rfl, hl⟩ := hc
      obtain ⟨x, dx, vs, fp, h1, h2, h3⟩ := E.insR e1
      refine ⟨_, h1, x, dx, vs, rfl, h2, h3.lookN hl, ρ, φ, E, ?_⟩
      unfold xCall xSlot at q
      cases e2 : slOf ρ a with
      | none => rw [e2] at q; exact q.elim
      | some s =>
        rw [e2] at q
        simp only at q
        cases e3 : ms ρ with
        | stuck => rw [e3] at q; exact q.elim
        | ex c ρ' => rw [e3] at q; exact q
        | vals as ρ' =>
          rw [e3] at q
          intro vs' H' φ' E' v' r
          have r' : ArgR X.K H' σ (.ref x :: vs') (a :: as) := by
            rcases hi with rfl | rfl
            · exact .o h1 r
            · exact .r h1 r
          exact xCall_sp E' v' r' q
    · rw [if_neg hc] at q; exact q.elim
theorem px_meth {a : XA} {pl : Sem Bool} (hi : a = .o i ∨ a = .r i) (tk : Takes X W) (G : MtT X.prog X.w X.K X.mg X.base n C nm .per fm) (hr : Room n X.A) (hN : X.N[i]? = some y) (ha : PXs X B W (e :: es) ms)
    (hev : MetEv X (.Name y p) nm (e :: es) apos pos pl := by rfl)
    (hv : Vis X.env.scope y := by first | exact Or.inl rfl | exact Or.inr (Or.inl rfl) | exact Or.inr (Or.inr rfl)) (hd : (y == ("__debug__" : Str)) = false := by decide) (hcd : (y == ("__classdict__" : Str)) = false := by decide)
    (hst : starEach (e :: es) X.env = (false, eval e X.env) :: starEach es X.env := by rfl) (hpl : (backTo pos (starEach es X.env)).any (·.1) = false := by rfl) :
    PXm X B W (.Call (.Attribute (.Name y p) nm apos) (e :: es) [] pos) (xMeth C nm a i fm ms) := by
  obtain ⟨⟨f, fd, ps, F, hm, hb⟩, c⟩ := G
  exact (pe_metA (pe_var (i := i) hN hv hd hcd) c hm F hr hb (fun σ => passAt tk σ) ha hst hpl hev).weak fun σ H Q h => xMeth_rd hi h
theorem px_meth0 {a : XA} {pl : Sem Bool} (hi : a = .o i ∨ a = .r i) (tk : Takes X W) (G : MtT X.prog X.w X.K X.mg X.base n C nm .per fm) (hr : Room n X.A) (hN : X.N[i]? = some y)
    (hev : MetEv X (.Name y p) nm [] apos pos pl := by rfl)
    (hv : Vis X.env.scope y := by first | exact Or.inl rfl | exact Or.inr (Or.inl rfl) | exact Or.inr (Or.inr rfl)) (hd : (y == ("__debug__" : Str)) = false := by decide) (hcd : (y == ("__classdict__" : Str)) = false := by decide) :
    PXm X B W (.Call (.Attribute (.Name y p) nm apos) [] [] pos) (xMeth C nm a i fm xNil) := by
  obtain ⟨⟨f, fd, ps, F, hm, hb⟩, c⟩ := G
  refine (pe_metA0 (pe_var (i := i) hN hv hd hcd) c hm F hr hb (fun σ => passAt tk σ) hev).weak fun σ H Q h => ?_
  obtain ⟨v, h1, a', dx, gs, h2, h3, h4, ρ, φ, E, q⟩ := xMeth_rd (ms := xNil) hi h
  exact ⟨v, h1, a', dx, gs, h2, h3, h4, q [] H φ E (Ev.refl _ _) .nil⟩
/-! ### a method that turns nothing -/
def mMeth (C nm : Str) (i : Nat) (fm : FM) (ms : MA) : ME := fun ρ => match insOf ρ[i]? with
  | some (C', fs) => if C' = C ∧ fs.lookup nm = none then (ms ρ).bind fun ds => (match fm (.r (.ins C fs) :: ds.map .d) with
    | .ret d _ => some d
    | _ => none) else none
  | none => none
theorem insR_rep {K : PySem.W.Frag} {H : Hp} {σ : L2.St} {ρ : Rho} {fs : List (Str × Fl)} (R : RdOk K xo H σ ρ) (e : insOf ρ[i]? = some (C, fs)) : ∃ x fp, σ[i]? = some (some (.ref x)) ∧ OwnRep K H fp x (.ins C fs) := by
  cases q : ρ[i]? with
  | none => rw [q] at e; cases e
  | some s =>
    rw [q] at e
    have r := R.rd i s q
    cases s with
    | o ob =>
      cases ob with
      | lst ds => cases e
      | dct ks => cases e
      | map _ _ => cases e
      | two _ _ => cases e
      | pr _ _ => cases e
      | shl => cases e
      | ins C' fs' =>
        cases e
        generalize σ[i]? = w at r ⊢
        cases r with | o r => exact ⟨_, _, rfl, r⟩
    | r ob =>
      cases ob with
      | lst ds => cases e
      | dct ks => cases e
      | map _ _ => cases e
      | two _ _ => cases e
      | pr _ _ => cases e
      | shl => cases e
      | ins C' fs' =>
        cases e
        generalize σ[i]? = w at r ⊢
        cases r with | r r => exact ⟨_, _, rfl, r⟩
    | _ => cases e
theorem Rps.slD {K : PySem.W.Frag} {H : Hp} : ∀ {vs : List V} {ds : List PyData}, Rps K H vs ds → ∀ (j : Nat) (s : Sl), (ds.map Sl.d)[j]? = some s → SlOk K H (fun _ => False) (fun _ => False) (vs.map some)[j]? s
  | _, _, .nil, j, s, q => by simp at q
  | _, _, .cons r rs, 0, s, q => by simp at q; subst q; exact .d r fun _ z => z
  | _, _, .cons r rs, j + 1, s, q => by simpa using Rps.slD rs j s (by simpa using q)
theorem argsR {K : PySem.W.Frag} {H : Hp} {x : Addr} {ob : Ob} {fp : Addr → Prop} {vs : List V} {ds : List PyData} (r : OwnRep K H fp x ob) (rs : Rps K H vs ds) : ArgsOk K H (.ref x :: vs) (.r ob :: ds.map .d) (fun _ _ => False) := by
  have no : (fun b => ∃ j : Nat, (fun (_ : Nat) (_ : Addr) => False) j b) = fun _ : Addr => False := by funext b; exact propext ⟨fun ⟨_, z⟩ => z, False.elim⟩
  refine ⟨by simp [rs.length], fun j s q => ?_, fun _ _ _ z => z, fun _ _ _ z => z.elim, fun b o _ q => q, fun b ⟨_, z⟩ => z.elim, fun _ _ z => z.elim, fun j y q => ?_, fun j c q => ?_⟩
  · rw [no]
    cases j with
    | zero => simp at q; subst q; exact .r r (fun _ _ z => z) fun _ z => z
    | succ j => simpa using rs.slD j s (by simpa using q)
  · have q : ioOf (.ref x :: vs) (.r ob :: ds.map .d) j = some y := q
    unfold ioOf at q
    split at q
    · rename_i ob' z h1 _
      cases j with
      | zero => simp at h1
      | succ j => simp at h1
    · cases q
  · cases j with
    | zero => simp at q
    | succ j => simp at q
theorem mMeth_rd (hk : ks.all id = true) {σ : L2.St} {H : Hp} {Q : VK} (h : tE X.K xo .per (mMeth C nm i fm ma) σ H Q) : tMetA (He.ga X.K C) nm (spM X.K .per fm) (fun _ => E0) (tVar i) (tAm X.K xo ks ma) σ H Q := by
  obtain ⟨ρ, d, R, q, z⟩ := h
  unfold mMeth at q
  cases e1 : insOf ρ[i]? with
  | none => rw [e1] at q; cases q
  | some t =>
    obtain ⟨C', fs⟩ := t
    rw [e1] at q
    simp only at q
    by_cases hc : C' = C ∧ fs.lookup nm = none
    · rw [if_pos hc] at q
      obtain ⟨rfl, hl⟩ := hc
      obtain ⟨ds, q1, q⟩ := Option.bind_eq_some_iff.mp q
      obtain ⟨x, dx, vs, fp, h1, h2, h3⟩ := R.ins e1
      refine ⟨_, h1, x, dx, vs, rfl, h2, h3.lookN hl, ρ, ds, R, q1, fun us H1 s1 r1 => ?_⟩
      obtain ⟨x', fp', g1, g2⟩ := insR_rep (R.mono s1) e1
      rw [h1] at g1
      cases g1
      refine ⟨_, _, argsR g2 (r1.rps hk), ?_⟩
      split at q
      · rename_i d' obs e2
        cases q
        rw [e2]
        intro v H' φ' O r
        have s : Same H1 H' := fun b o q => O.ev.st b o (fun ⟨_, z⟩ => z) q
        exact z v H' (s1.trans s) r
      · cases q
    · rw [if_neg hc] at q; cases q
theorem passE0 {X : Cx} (σ : L2.St) : PassesAt (L2.CX X.prog X.w) X σ E0 := fun pins H s e s' I h => passL pins σ H s e s' I h
theorem pm_meth {pl : Sem Bool} (G : MtT X.prog X.w X.K X.mg X.base n C nm .per fm) (hr : Room n X.A) (hN : X.N[i]? = some y) (ha : PAm X xo ks (e :: es) ma) (hk : ks.all id = true := by rfl)
    (hev : MetEv X (.Name y p) nm (e :: es) apos pos pl := by rfl)
    (hv : Vis X.env.scope y := by first | exact Or.inl rfl | exact Or.inr (Or.inl rfl) | exact Or.inr (Or.inr rfl)) (hd : (y == ("__debug__" : Str)) = false := by decide) (hcd : (y == ("__classdict__" : Str)) = false := by decide)
    (hst : starEach (e :: es) X.env = (false, eval e X.env) :: starEach es X.env := by rfl) (hpl : (backTo pos (starEach es X.env)).any (·.1) = false := by rfl) :
    PEm X xo .per (.Call (.Attribute (.Name y p) nm apos) (e :: es) [] pos) (mMeth C nm i fm ma) := by
  obtain ⟨⟨f, fd, ps, F, hm, hb⟩, c⟩ := G
  exact (pe_metA (pe_var (i := i) hN hv hd hcd) c hm F hr hb passE0 ha hst hpl hev).weak fun σ H Q h => mMeth_rd hk h
theorem pm_meth0 {pl : Sem Bool} (G : MtT X.prog X.w X.K X.mg X.base n C nm .per fm) (hr : Room n X.A) (hN : X.N[i]? = some y)
    (hev : MetEv X (.Name y p) nm [] apos pos pl := by rfl)
    (hv : Vis X.env.scope y := by first | exact Or.inl rfl | exact Or.inr (Or.inl rfl) | exact Or.inr (Or.inr rfl)) (hd : (y == ("__debug__" : Str)) = false := by decide) (hcd : (y == ("__classdict__" : Str)) = false := by decide) :
    PEm X xo .per (.Call (.Attribute (.Name y p) nm apos) [] [] pos) (mMeth C nm i fm mNil) := by
  obtain ⟨⟨f, fd, ps, F, hm, hb⟩, c⟩ := G
  refine (pe_metA0 (pe_var (i := i) hN hv hd hcd) c hm F hr hb passE0 hev).weak fun σ H Q h => ?_
  obtain ⟨v, h1, a', dx, gs, h2, h3, h4, ρ, ds, R, q1, q⟩ := mMeth_rd (ks := []) (ma := mNil) rfl h
  cases q1
  exact ⟨v, h1, a', dx, gs, h2, h3, h4, q [] H (Same.refl H) .nil⟩
/-! ### name = C(..) -/
structure MkT (P : Program) (w : World) (K : PySem.W.Frag) (mg : Str → Option Value) (base : Heap) (n : Nat) (C : Str) (fm : FM) : Prop where
  ex : ∃ (f : Addr) (fd : FuncData) (ps : List Str), FnOk P w K mg base (L2.CX P w) n f fd ps (spM K .per fm) ∧ Mk K (He.ga K C) f ∧ Binds K fd ps []
  g : mg C = some (.ref (He.ga K C))
def sMk (i : Nat) (C : Str) (fm : FM) (ms : MA) : MS := fun ρ => match ρ[i]? with
  | some (.o _) => .stuck
  | none => .stuck
  | _ => match ms ρ with
    | some ds => match fm (.o (.ins C []) :: ds.map .d) with
      | .ret .none [ob] => .nx (ρ.set i (.o ob))
      | _ => .stuck
    | none => .stuck
theorem sMk_ok {ρ : Rho} (h : sMk i C fm ma ρ ≠ .stuck) : (∀ ob, ρ[i]? ≠ some (.o ob)) ∧ i < ρ.length ∧ ∃ ds ob, ma ρ = some ds ∧ fm (.o (.ins C []) :: ds.map .d) = .ret .none [ob] ∧ sMk i C fm ma ρ = .nx (ρ.set i (.o ob)) := by
  unfold sMk at h ⊢
  cases e : ρ[i]? with
  | none => rw [e] at h; exact absurd rfl h
  | some s =>
    have hl := (List.getElem?_eq_some_iff.mp e).1
    rw [e] at h
    cases s with
    | o ob => exact absurd rfl h
    | _ =>
      refine ⟨(by intro ob z; cases z), hl, ?_⟩
      simp only at h ⊢
      cases q : ma ρ with
      | none => rw [q] at h; exact absurd rfl h
      | some ds =>
        rw [q] at h
        simp only at h ⊢
        split at h
        · rename_i ob e2; exact ⟨ds, ob, rfl, e2, rfl⟩
        · exact absurd rfl h
/-- a new own thing comes into a slot -/
theorem EnvOk.setOwn {K : PySem.W.Frag} {H H' : Hp} {σ : L2.St} {ρ : Rho} {φ : Nat → Addr → Prop} {a : Addr} {ob : Ob} {fp : Addr → Prop} (h : EnvOk K B H σ ρ φ) (hn : ∀ ob, ρ[i]? ≠ some (.o ob)) (hi : i < ρ.length) (e : Same H H') (r : OwnRep K H' fp a ob) (fr : ∀ b, fp b → H b = none) :
    EnvOk K B H' (σ.set i (some (.ref a))) (ρ.set i (.o ob)) (fun j b => (j = i ∧ fp b) ∨ φ j b) := by
  have h' := h.same e
  have nφ : ∀ j b, fp b → ¬ φ j b := fun j b hb z => by obtain ⟨o, q, _⟩ := h.there z; rw [fr b hb] at q; cases q
  refine ⟨by simp [h.len], fun j s q => ?_, fun j q b hb => ?_, fun j k b hj hk => ?_, h'.frm, h'.frz, fun j b hb => ?_, fun j x q => ?_, h.xo.set i _ (fun c z => by cases z)⟩
  · by_cases ej : i = j
    · subst ej
      rw [List.getElem?_set_self hi] at q
      cases q
      rw [List.getElem?_set_self (by rw [h.len]; exact hi)]
      have z : (fun b => (i = i ∧ fp b) ∨ φ i b) = fp := by
        funext b
        apply propext
        exact ⟨fun z => z.elim (fun z => z.2) fun z => absurd z (h.notOwn hn b), fun z => .inl ⟨rfl, z⟩⟩
      rw [z]
      exact .o r
    · rw [List.getElem?_set_ne ej] at q
      rw [List.getElem?_set_ne ej]
      have zj : (fun b => (j = i ∧ fp b) ∨ φ j b) = φ j := by
        funext b
        exact propext ⟨fun z => z.elim (fun z => absurd z.1.symm ej) id, .inr⟩
      rw [zj]
      have z := h.sl j s q
      generalize σ[j]? = v at z
      cases z with
      | nil z => exact .nil z
      | d r z => exact .d (r.mono (firm e)) z
      | b q' r z =>
        refine .b (q'.imp (fun ⟨rd, na⟩ => ⟨rd.imp (fun y => e _ _ y) fun ⟨o, y⟩ => ⟨o, e _ _ y⟩, fun ⟨k, hk⟩ => hk.elim (fun z => ?_) fun z => na ⟨k, z⟩⟩) id) (r.mono (firm e)) z
        have := fr _ z.2
        rcases rd with y | ⟨o, y⟩ <;> (rw [this] at y; cases y)
      | o r => exact .o (r.mono (firm e) fun b o _ => e b o)
      | r r nr z =>
        refine .r (r.mono (firm e) fun b o _ => e b o) (fun b hb ⟨k, hk⟩ => hk.elim (fun z => ?_) fun z => nr b hb ⟨k, z⟩) z
        obtain ⟨o, q, _⟩ := r.soft b hb
        rw [fr _ z.2] at q
        cases q
      | x z => exact .x z
  · rcases hb with ⟨e1, _⟩ | hb
    · subst e1
      rw [List.getElem?_eq_none_iff] at q
      simp at q
      omega
    · exact h.out j (by rw [List.getElem?_eq_none_iff] at q ⊢; simpa using q) b hb
  · rcases hj with ⟨e1, e2⟩ | hj
    · rcases hk with ⟨e3, _⟩ | hk
      · rw [e1, e3]
      · exact absurd hk (nφ k b e2)
    · rcases hk with ⟨_, e2⟩ | hk
      · exact absurd hj (nφ j b e2)
      · exact h.dis j k b hj hk
  · rcases hb with ⟨_, e2⟩ | hb
    · exact .inr (h.new0 (fr b e2)).1
    · exact h.sub j b hb
  · have ej : i ≠ j := fun ej => by subst ej; rw [h.notIo hn] at q; cases q
    rw [List.getElem?_set_ne ej, List.getElem?_set_ne ej]
    exact h.io j x q
theorem argsMk {K : PySem.W.Frag} {H : Hp} {x dx : Addr} {Ca : Addr} {vs : List V} {ds : List PyData} (e1 : H x = some (.ins (He.ga K C) dx [])) (e2 : H dx = some (.own x)) (rs : Rps K H vs ds) : ArgsOk K H (.ref x :: vs) (.o (.ins C []) :: ds.map .d) (fun j b => j = 0 ∧ (b = x ∨ b = dx ∨ False)) := by
  refine ⟨by simp [rs.length], fun j s q => ?_, fun j q b hb => ?_, fun j l b z1 z2 => by rw [z1.1, z2.1], fun b o _ q => q, fun b ⟨_, _, z⟩ => ?_, fun j b z => .inl ⟨j, z⟩, fun j y q => ?_, fun j c q => ?_⟩
  · cases j with
    | zero =>
      simp at q
      subst q
      have z : (fun b => (0 : Nat) = 0 ∧ (b = x ∨ b = dx ∨ False)) = fun b => b = x ∨ b = dx ∨ False := by funext b; exact propext ⟨fun z => z.2, fun z => ⟨rfl, z⟩⟩
      show SlOk K H _ (fun b => (0 : Nat) = 0 ∧ (b = x ∨ b = dx ∨ False)) _ _
      rw [z]
      exact .o (.ins e1 e2 .nil)
    | succ j =>
      have n : ∀ b, ¬ (j + 1 = 0 ∧ (b = x ∨ b = dx ∨ False)) := fun b z => by cases z.1
      have r := rs.slD j s (by simpa using q)
      have q' : (ds.map Sl.d)[j]? = some s := by simpa using q
      rw [List.getElem?_map] at q'
      obtain ⟨d, hd, rfl⟩ := Option.map_eq_some_iff.mp q'
      obtain ⟨v, hv, rv⟩ := rs.get hd
      have : ((V.ref x :: vs).map some)[j + 1]? = some (some v) := by simp [hv]
      rw [this]
      exact .d rv n
  · cases hb.1
    simp at q
  · rcases z with z | z | z
    · subst z; exact ⟨_, e1⟩
    · subst z; exact ⟨_, e2⟩
    · exact z.elim
  · have q : ioOf (.ref x :: vs) (.o (.ins C []) :: ds.map .d) j = some y := q
    unfold ioOf at q
    split at q
    · rename_i ob' z h1 h2
      cases j with
      | zero => simp at h1 h2; subst h2; cases q; exact ⟨rfl, _, rfl⟩
      | succ j => simp at h1
    · cases q
  · cases j with
    | zero => simp at q
    | succ j => simp at q
theorem sMk_rd {f : Addr} {i : Nat} {D : Ends} {σ : L2.St} {H : Hp} {vs : List V} {ds : List PyData} {H1 : Hp} {ρ : Rho} {φ : Nat → Addr → Prop} {ob : Ob} (E : EnvOk X.K B H σ ρ φ) (s1 : Same H H1) (r : Rps X.K H1 vs ds) (hn : ∀ ob, ρ[i]? ≠ some (.o ob)) (hl : i < ρ.length) (e : fm (.o (.ins C []) :: ds.map .d) = .ret .none [ob])
    (q : Post X.K B W rk D H φ (.nx (ρ.set i (.o ob)))) : ∀ x dx, H1 x = none → H1 dx = none → dx ≠ x → spM X.K .per fm (.ref x :: (vs ++ [])) (upd (upd H1 dx (.own x)) x (.ins (He.ga X.K C) dx [])) (fun v H2 => v = .non ∧ D.nx (σ.set i (some (.ref x))) H2) E0 := by
  intro x dx n1 n2 nd
  rw [List.append_nil]
  have e1 : upd (upd H1 dx (.own x)) x (.ins (He.ga X.K C) dx []) x = some (.ins (He.ga X.K C) dx []) := upd_same
  have e2 : upd (upd H1 dx (.own x)) x (.ins (He.ga X.K C) dx []) dx = some (.own x) := by rw [upd_ne nd, upd_same]
  have s2 : Same H1 (upd (upd H1 dx (.own x)) x (.ins (He.ga X.K C) dx [])) := fun b o z => by rw [upd_ne (ne_of_none z n1), upd_ne (ne_of_none z n2)]; exact z
  refine ⟨_, _, argsMk (Ca := x) e1 e2 (r.mono (firm s2)), ?_⟩
  rw [e]
  intro v H' φ' O rv
  cases rv
  refine ⟨rfl, ?_⟩
  obtain ⟨ρr, eo, own⟩ := O.own
  obtain ⟨x', ob', g1, g2, g3⟩ := own 0 _ rfl
  simp at g1
  subst g1
  have eob : ob' = ob := by
    cases ρr with
    | nil => simp at g2
    | cons a ρr =>
      simp at g2
      subst g2
      rw [outs] at eo
      exact (List.cons.inj eo).1.symm
  subst eob
  have s3 : Same H H' := fun b o z => by
    have z1 := s1 b o z
    refine O.ev.st b o (fun ⟨j, _, w⟩ => ?_) (s2 b o z1)
    rcases w with w | w | w
    · subst w; rw [n1] at z1; cases z1
    · subst w; rw [n2] at z1; cases z1
    · exact w
  have fr : ∀ b, φ' 0 b → H b = none := fun b hb => by
    cases hz : H b with
    | none => rfl
    | some o =>
      have z1 := s1 b o hz
      rcases O.ev.sub 0 b hb with ⟨l, _, w⟩ | w
      · rcases w with w | w | w
        · subst w; rw [n1] at z1; cases z1
        · subst w; rw [n2] at z1; cases z1
        · exact w.elim
      · rw [s2 b o z1] at w; cases w
  exact q _ _ _ (E.setOwn hn hl s3 g3 fr) ⟨fun b o _ z => s3 b o z, fun j b z => z.elim (fun z => .inr (fr b z.2)) fun z => .inl ⟨j, z⟩⟩
theorem sm_mk {pos' : Pos} (hN : X.N.Nodup) (hi : X.N[i]? = some y) (hx : Loc X.env.scope y) (G : MkT X.prog X.w X.K X.mg X.base n C fm) (hr : Room (n + 1) X.A) (hg : Gl X C) (ha : PAm X B.xo ks (e :: es) ma) (hk : ks.all id = true := by rfl) (hdb : (C == ("__debug__" : Str)) = false := by decide)
    (he : starEach (e :: es) X.env = (false, eval e X.env) :: starEach es X.env := by rfl) (hpl : (backTo pos (starEach es X.env)).any (·.1) = false := by rfl) {spos : Pos} (hs : swapsWith (.Call (.Name C p) (e :: es) [] pos) (some (.Name y pos')) spos.line X.env = pure false := by rfl)
    (hf : X.fn y = true ∨ X.env.scope.names.lookup y = some .local := by first | exact .inl rfl | exact .inr rfl | assumption) : PSm X B W rk (.Assign [.Name y pos'] (.Call (.Name C p) (e :: es) [] pos) spos) (sMk i C fm ma) := by
  obtain ⟨⟨f, fd, ps, F, hm, hb⟩, g⟩ := G
  refine (ps_set hN hi hx (pe_make hm F hr hg g hb .nil passL ha hdb he hpl) hs hf).weak fun D σ H ⟨ρ, φ, E, q⟩ => ?_
  obtain ⟨hn, hl, ds, ob, h1, h2, h3⟩ := sMk_ok q.ns
  rw [h3] at q
  exact ⟨ρ, ds, E.rd, h1, fun vs H1 s1 r1 => sMk_rd (f := f) E s1 (r1.rps hk) hn hl h2 q⟩
theorem sm_mk0 {pos' : Pos} (hN : X.N.Nodup) (hi : X.N[i]? = some y) (hx : Loc X.env.scope y) (G : MkT X.prog X.w X.K X.mg X.base n C fm) (hr : Room (n + 1) X.A) (hg : Gl X C) (hdb : (C == ("__debug__" : Str)) = false := by decide)
    {spos : Pos} (hs : swapsWith (.Call (.Name C p) [] [] pos) (some (.Name y pos')) spos.line X.env = pure false := by rfl)
    (hf : X.fn y = true ∨ X.env.scope.names.lookup y = some .local := by first | exact .inl rfl | exact .inr rfl | assumption) : PSm X B W rk (.Assign [.Name y pos'] (.Call (.Name C p) [] [] pos) spos) (sMk i C fm mNil) := by
  obtain ⟨⟨f, fd, ps, F, hm, hb⟩, g⟩ := G
  refine (ps_set hN hi hx (pe_make0 hm F hr hg g hb .nil passL hdb) hs hf).weak fun D σ H ⟨ρ, φ, E, q⟩ => ?_
  obtain ⟨hn, hl, ds, ob, h1, h2, h3⟩ := sMk_ok q.ns
  rw [h3] at q
  cases h1
  exact sMk_rd (f := f) (vs := []) E (Same.refl H) .nil hn hl h2 q
/-! ### and, or, not of such values -/
variable {a b : Expr} {nx : MX}
def xAndV (m n : MX) : MX := fun ρ => match m ρ with
  | .val (.bool true) ρ1 => n ρ1
  | .val (.bool false) ρ1 => .val (.bool false) ρ1
  | .ex c ρ1 => .ex c ρ1
  | _ => .stuck
def xOrV (m n : MX) : MX := fun ρ => match m ρ with
  | .val (.bool false) ρ1 => n ρ1
  | .val (.bool true) ρ1 => .val (.bool true) ρ1
  | .ex c ρ1 => .ex c ρ1
  | _ => .stuck
theorem px_one {op : BoolOp} (ha : PXm X B W a mx) : PXm X B W (.BoolOp op [a] pos) mx := pe_one ha
theorem px_and (ha : PXm X B W a mx) (hb : PXm X B W (.BoolOp .And (b :: es) pos) nx) : PXm X B W (.BoolOp .And (a :: b :: es) pos) (xAndV mx nx) := (pe_and ha hb).weak fun σ H Q ⟨ρ, φ, E, q⟩ => by
  refine ⟨ρ, φ, E, ?_⟩
  unfold xAndV at q
  cases e1 : mx ρ with
  | stuck => rw [e1] at q; exact q.elim
  | ex c ρ1 => rw [e1] at q; exact q
  | val d ρ1 =>
    rw [e1] at q
    intro v H1 φ1 E1 w1 r1
    cases d with
    | bool t =>
      cases r1
      refine ⟨t, rfl, ?_⟩
      cases t with
      | true => rw [if_pos rfl]; exact ⟨ρ1, φ1, E1, PostX.mono q w1⟩
      | false => rw [if_neg Bool.false_ne_true]; exact q _ H1 φ1 E1 w1 (.bl _)
    | _ => exact q.elim
theorem px_or (ha : PXm X B W a mx) (hb : PXm X B W (.BoolOp .Or (b :: es) pos) nx) : PXm X B W (.BoolOp .Or (a :: b :: es) pos) (xOrV mx nx) := (pe_or ha hb).weak fun σ H Q ⟨ρ, φ, E, q⟩ => by
  refine ⟨ρ, φ, E, ?_⟩
  unfold xOrV at q
  cases e1 : mx ρ with
  | stuck => rw [e1] at q; exact q.elim
  | ex c ρ1 => rw [e1] at q; exact q
  | val d ρ1 =>
    rw [e1] at q
    intro v H1 φ1 E1 w1 r1
    cases d with
    | bool t =>
      cases r1
      refine ⟨t, rfl, ?_⟩
      cases t with
      | true => rw [if_pos rfl]; exact q _ H1 φ1 E1 w1 (.bl _)
      | false => rw [if_neg Bool.false_ne_true]; exact ⟨ρ1, φ1, E1, PostX.mono q w1⟩
    | _ => exact q.elim
end
end PL

/- PL, the part for sorted(set(list of ints)) -/
namespace PL
open PySem PySem.Spec PyProof.Rows L2
/-- a set just made -/
abbrev newS (w : World) : Obj := { cls := .type "set", dict := none, data := .set #[] 0 (.fresh 0 0 (!w.params.followText "set-order")) }
/-- what set.__init__ of a list of ints leaves -/
def SetDone (w : World) (ns : List Int) (s0 : Shared) (v : Value) (s2 : Shared) : Prop :=
  v = .none ∧ ∃ hp tk c, s2 = { s0 with heap := hp, toks := tk } ∧ SetR w hp s0.heap.objs.size (fun j => decide (j ∈ ns)) c ∧ c ≤ ns.length ∧ ∀ b o, s0.heap.get? b = some o → hp.get? b = some o
section
variable {P : Program} {w : World} {A : Around} {E : Value → Shared → Prop} {s : Shared}
/-- the loop of set.update over a list's own iterator -/
theorem fill_ints {l : Addr} {items : Array Value} {ns : List Int} (hA : A.in1.handled = none) (hl : s.heap.IsList l items) (hit : IntsAre items.toList ns) (hb : ns.length + 1 < scanBound) :
    codeAny (model P w) A (.builtin "set.update.loop" ⟨[.ref s.heap.objs.size, .ref (s.heap.push (newS w)).objs.size], []⟩) (wants (SetDone w ns s) E)
      { s with heap := (s.heap.push (newS w)).push { cls := .type "list_iterator", data := .fields #[.ref l, .int 0 0] } } := by
  have hz : items.size = ns.length := by have q := IntsAre.length hit; rwa [Array.length_toList] at q
  have hlS : l < s.heap.objs.size := by obtain ⟨_, q, _⟩ := hl; exact Heap.lt_size q
  have n1 : l ≠ (s.heap.push (newS w)).objs.size := by rw [Heap.size_push]; exact fun z => Nat.lt_asymm (Nat.lt_succ_self s.heap.objs.size) (by rw [z] at hlS; exact hlS)
  have n2 : s.heap.objs.size ∉ [(s.heap.push (newS w)).objs.size, l] := by
    rw [Heap.size_push]
    intro z
    rcases List.mem_cons.mp z with z | z
    · exact Nat.lt_irrefl _ (Nat.lt_of_lt_of_eq (Nat.lt_succ_self s.heap.objs.size) z.symm)
    · rw [List.mem_singleton.mp z] at hlS; exact absurd hlS (Nat.lt_irrefl _)
  have vals : ∀ (i : Nat) (v : Value), items[i]? = some v → ∃ k t, ns[i]? = some k ∧ v = .int k t := fun i v hv => by
    have hi : i < ns.length := hz ▸ (Array.getElem?_eq_some_iff.mp hv).1
    obtain ⟨t, e⟩ := PyProof.Rows.IntsAre.int_at hit i v (by rw [Array.getElem?_toList]; exact hv)
    exact ⟨ns[i], t, List.getElem?_eq_getElem hi, by rw [e, List.getD_eq_getElem?_getD, List.getElem?_eq_getElem hi]; rfl⟩
  refine set_update_ints ((Walks.list hA (s.heap.push (newS w)).objs.size l n1 items).toS) s.heap.objs.size n2 ns hz hb vals items.size 0 _ (by omega) (Nat.zero_le _) ⟨⟨_, Heap.get?_push_size _ rfl, rfl, rfl⟩, (hl.push _).push _⟩
    ⟨0, Nat.le_refl 0, setR_new_at (Heap.get?_push_of_some _ (Heap.get?_push_size _ rfl))⟩ fun s' c hm hc hS => ?_
  obtain ⟨hp, g2, d2, tk, os2⟩ := s'
  have e1 : g2 = s.gens := hm.gens
  have e2 : d2 = s.drawn := hm.drawn
  have e3 : os2 = s.os := hm.os
  subst e1 e2 e3
  refine ⟨rfl, hp, tk, c, rfl, hS, hz ▸ hc, fun b o e => ?_⟩
  have hb0 : b < s.heap.objs.size := Heap.lt_size e
  refine hm.heap b o (fun z => ?_) (Heap.get?_push_of_some _ (Heap.get?_push_of_some _ e))
  rcases List.mem_cons.mp z with z | z
  · rw [z] at hb0; exact Nat.lt_irrefl _ hb0
  · have z := List.mem_singleton.mp z
    rw [Heap.size_push] at z
    rw [z] at hb0
    exact Nat.lt_asymm (Nat.lt_succ_self _) hb0
/-- set(l), l a list of ints -/
theorem set_of_ints {l : Addr} {items : Array Value} {ns : List Int} {Q : Value → Shared → Prop} (hA : A.handled = none) (hl : s.heap.IsList l items) (hit : IntsAre items.toList ns) (hb : ns.length + 1 < scanBound)
    (k : ∀ (hp : Heap) (tk c : Nat), SetR w hp s.heap.objs.size (fun j => decide (j ∈ ns)) c → c ≤ ns.length → (∀ b o, s.heap.get? b = some o → hp.get? b = some o) → Q (.ref s.heap.objs.size) { s with heap := hp, toks := tk }) :
    wpAny (model P w) A (call (.type "set") [.ref l]) Q E s := by
  obtain ⟨c0, tl, hmro⟩ := PySem.F.called_set.mro
  have m1 := PySem.F.called_set.made
  have m2 := PySem.F.called_set.sub
  have m3 := PySem.F.called_set.notType
  have m4 := PySem.F.called_set.canCreate
  have m5 := PySem.F.typeCall_set_1 (.ref l)
  refine wpAny_call (codeAny_of_tree (show wpAny _ _ (callAny (.type "set") _) _ _ _ from wpAny_pure ⟨Code.quiet_builtin _ (by decide +kernel), codeAny_builtin PySem.F.entry_type_call ?_⟩))
  rw [Around.under_plain (weight_type_call_type "set" [.ref l] []) rfl]
  repeat (any_goals (first | assumption | wp_step))
  refine codeAny_mono (code_set_led1 (.ref l) (E := E) (Q₁ := fun v s1 => v = .ref s.heap.objs.size ∧ s1 = { s with heap := s.heap.push (newS w) }) ⟨rfl, rfl⟩) fun r s1 hr => ?_
  cases r with
  | error e => exact hr
  | ok f1 =>
    cases f1 with
    | ret v1 =>
      obtain ⟨rfl, rfl⟩ := hr
      have t1 : (s.heap.push (newS w)).get? s.heap.objs.size = some (newS w) := Heap.get?_push_size _ rfl
      have t2 : Shared.TypeIs { s with heap := s.heap.push (newS w) } (.ref s.heap.objs.size) "set" := ⟨_, t1, rfl⟩
      have t3 := PySem.F.called_set.init.lookup
      have t4 := PySem.F.called_set.init.bind (.ref s.heap.objs.size)
      repeat (any_goals (first | assumption | wp_step))
      refine codeAny_mono (codeAny_call_builtin (R := wants (SetDone w ns s) E) PySem.F.called_set.init.plain PySem.F.entry_set_init (check_set_init_1 t2 ?_)) fun r2 s2 hr2 => ?_
      · have hl0 := hl
        obtain ⟨⟨oc, od, ot, os⟩, g1, g2, gn, g3⟩ := hl
        dsimp only at g2 g3
        subst g2 g3
        have u1 : (s.heap.push (newS w)).get? l = some { cls := .type "list", dict := od, data := .seq items gn, slots := os } := Heap.get?_push_of_some _ g1
        have u2 := PySem.F.sub_list_set
        have u3 := PySem.F.sub_list_frozenset
        have u4 : (Value.type "list" == Value.type "dict") = false := by decide
        have u5 : (s.heap.push (newS w)).IsList l items := hl0.push _
        unfold Builtin.«set.__init__» noKeywords Builtin.Frozenset.updateFrom
        generalize hIt : pyIter = It
        wp_walk
        subst hIt
        refine wpAny_pyIter_list u5 (wpAny_bind (wpAny_runValue ?_))
        refine codeAny_mono (fill_ints (E := E) (by simp [hA]) hl0 hit hb) fun r3 s3 hr3 => ?_
        cases r3 with
        | error e => exact hr3
        | ok f3 =>
          cases f3 with
          | ret v3 =>
            obtain ⟨rfl, hp, tk, c, rfl, q1, q2, q3⟩ := hr3
            exact wpAny_pure (wpAny_pure ⟨rfl, hp, tk, c, rfl, q1, q2, q3⟩)
          | _ => exact hr3.elim
      · cases r2 with
        | error e => exact hr2
        | ok f2 =>
          cases f2 with
          | ret v2 =>
            obtain ⟨rfl, hp, tk, c, rfl, q1, q2, q3⟩ := hr2
            repeat (any_goals (first | assumption | wp_step))
            exact k _ _ _ q1 q2 q3
          | _ => exact hr2.elim
    | _ => exact hr.elim
end
end PL

namespace PL
open PySem PySem.Spec PyProof.Rows L2
/-! ### sorted(set(xs)) -/
/-- the ints of a list -/
def intsOf : List PyData → Option (List Int)
  | [] => some []
  | .int i :: ds => (intsOf ds).map (i :: ·)
  | _ => none
def insI (i : Int) : List Int → List Int
  | [] => [i]
  | j :: js => if i < j then i :: j :: js else if i = j then j :: js else j :: insI i js
/-- rising, each once -/
def riseI : List Int → List Int
  | [] => []
  | i :: is => insI i (riseI is)
theorem insI_mem (i k : Int) : ∀ js, k ∈ insI i js ↔ k = i ∨ k ∈ js
  | [] => by simp [insI]
  | j :: js => by
    rw [insI]
    split
    · simp
    · split
      · rename_i h; subst h; simp
      · simp only [List.mem_cons, insI_mem i k js]
        constructor
        · rintro (h | h | h)
          · exact .inr (.inl h)
          · exact .inl h
          · exact .inr (.inr h)
        · rintro (h | h | h)
          · exact .inr (.inl h)
          · exact .inl h
          · exact .inr (.inr h)
theorem riseI_mem (k : Int) : ∀ is, k ∈ riseI is ↔ k ∈ is
  | [] => by simp [riseI]
  | i :: is => by rw [riseI, insI_mem, riseI_mem k is, List.mem_cons]
theorem insI_lt (i : Int) : ∀ {js : List Int}, js.Pairwise (· < ·) → (insI i js).Pairwise (· < ·)
  | [], _ => by simp [insI]
  | j :: js, h => by
    rw [List.pairwise_cons] at h
    rw [insI]
    split
    · rename_i hi
      refine List.pairwise_cons.mpr ⟨fun k hk => ?_, List.pairwise_cons.mpr h⟩
      rcases List.mem_cons.mp hk with rfl | hk
      · exact hi
      · have := h.1 k hk; omega
    · split
      · exact List.pairwise_cons.mpr h
      · rename_i h1 h2
        refine List.pairwise_cons.mpr ⟨fun k hk => ?_, insI_lt i h.2⟩
        rcases (insI_mem i k js).mp hk with rfl | hk
        · omega
        · exact h.1 k hk
theorem riseI_lt : ∀ is, (riseI is).Pairwise (· < ·)
  | [] => .nil
  | i :: is => insI_lt i (riseI_lt is)
/-- two rising lists of the same members -/
theorem rise_eq : ∀ {xs ys : List Int}, xs.Pairwise (· < ·) → ys.Pairwise (· < ·) → (∀ k, k ∈ xs ↔ k ∈ ys) → xs = ys
  | [], [], _, _, _ => rfl
  | [], y :: ys, _, _, h => by have := (h y).mpr List.mem_cons_self; simp at this
  | x :: xs, [], _, _, h => by have := (h x).mp List.mem_cons_self; simp at this
  | x :: xs, y :: ys, hx, hy, h => by
    rw [List.pairwise_cons] at hx hy
    have exy : x = y := by
      have h1 := (h x).mp List.mem_cons_self
      have h2 := (h y).mpr List.mem_cons_self
      rcases List.mem_cons.mp h1 with e | h1
      · exact e
      · rcases List.mem_cons.mp h2 with e | h2
        · exact e.symm
        · have := hx.1 y h2; have := hy.1 x h1; omega
    subst exy
    refine congrArg _ (rise_eq hx.2 hy.2 fun k => ?_)
    have hk := h k
    simp only [List.mem_cons] at hk
    constructor
    · intro hm
      have := hx.1 k hm
      exact (hk.mp (.inr hm)).resolve_left (by omega)
    · intro hm
      have := hy.1 k hm
      exact (hk.mpr (.inr hm)).resolve_left (by omega)
def sortsetM (d : PyData) : Option PyData := match d with
  | .list ds => (intsOf ds).bind fun is => if is.length < 64 then some (.list ((riseI is).map .int)) else none
  | _ => none
theorem ints_v {K : PySem.W.Frag} {H : Hp} : ∀ {vs : List V} {ds : List PyData} {is : List Int}, Rps K H vs ds → intsOf ds = some is → vs = is.map V.int ∧ ds = is.map .int
  | _, _, _, .nil, h => by cases h; exact ⟨rfl, rfl⟩
  | _, _, _, .cons (d := d) r rs, h => by
    cases d with
    | int i =>
      obtain ⟨js, h1, rfl⟩ := Option.map_eq_some_iff.mp h
      cases r
      obtain ⟨e1, e2⟩ := ints_v rs h1
      exact ⟨by rw [e1]; rfl, by rw [e2]; rfl⟩
    | _ => cases h
theorem ints_rps {K : PySem.W.Frag} {H : Hp} : ∀ is : List Int, Rps K H (is.map V.int) (is.map .int)
  | [] => .nil
  | i :: is => .cons (.int i) (ints_rps is)
section
variable {X : Cx} {xo : XO} {e : Expr} {m : ME} {k1 : Kd} {p p2 pos q : Pos}
/-- set(xs): its ghost -/
def rSetL (K : PySem.W.Frag) (w : World) : List V → Hp → VK → Prop := fun vs H Q => ∃ (a : Addr) (ns : List Int), vs = [V.ref a] ∧ SqL K H a (ns.map V.int) ∧ ns.length + 1 < scanBound ∧ ∀ (b : Addr) (c : Nat), H b = none → c ≤ ns.length → Q (.ref b) (upd H b (SetO w b (fun j => decide (j ∈ ns)) c))
theorem cr_setL (hc : X.calm = true) : CallR X (.type "set") (rSetL X.K X.w) := by
  intro pins s σ H vs us Q I r h
  obtain ⟨a, ns, rfl, hs, hl, q⟩ := h
  obtain ⟨its, rv, pl, _⟩ := I.list hs
  rw [Vals.ref1 r]
  refine set_of_ints (I.ok.hd hc) pl.isList (by simpa using rv.ints) hl fun hp tk c R hle hk => ?_
  exact ⟨.ref _, _, I.laid (t' := tk) hk (Nat.le_refl _) (setO_new R), rfl, q _ c (I.hok.fresh (Nat.le_refl _)) hle⟩
theorem pm_sortset (hm : X.mg "sorted" = none) (hg : Gl X "sorted") (hm2 : X.mg "set" = none) (hg2 : Gl X "set") (ha : PEm X xo k1 e m) (hc : X.calm = true := by rfl) (hv : bootBuiltins "sorted" = some (.builtin "sorted") := by decide +kernel) (hv2 : bootBuiltins "set" = some (.type "set") := by decide +kernel)
    (hs : starEach [.Call (.Name "set" p2) [e] [] q] X.env = [(false, eval (.Call (.Name "set" p2) [e] [] q) X.env)] := by rfl) (hs2 : starEach [e] X.env = [(false, eval e X.env)] := by rfl) :
    PEm X xo .new (.Call (.Name "sorted" p) [.Call (.Name "set" p2) [e] [] q] [] pos) (mUn sortsetM m) :=
  (pe_callB (cr_sortedSet hc) hg hm hv (pa_cons (pe_callTy (cr_setL hc) hg2 hm2 hv2 (pa_cons ha pa_nil hs2) (by decide) (by decide) hs2) pa_nil hs) (by decide) (by decide) hs).weak fun σ H Q ⟨ρ, d, R, hq, z⟩ => by
    obtain ⟨x, q1, hq⟩ := Option.bind_eq_some_iff.mp hq
    refine ⟨ρ, x, R, q1, fun v H1 s1 r1 => ?_⟩
    cases x with
    | list ds =>
      obtain ⟨is, q2, hq⟩ := Option.bind_eq_some_iff.mp hq
      obtain ⟨hl, rfl⟩ := some_if hq
      obtain ⟨a, xs, rfl, sq, rr⟩ := r1.toAny.list
      obtain ⟨rfl, rfl⟩ := ints_v rr q2
      refine ⟨a, is, rfl, sq, by unfold scanBound; omega, fun b c nb hc' => ⟨b, _, c, rfl, upd_same, by omega, fun ns' p' h1 h2 h3 np => ?_⟩⟩
      have e1 : ns' = riseI is := rise_eq h1 (riseI_lt is) fun k => by rw [h2, riseI_mem]; exact decide_eq_true_iff
      subst e1
      have nbp : H1 p' = none := by
        by_cases e : p' = b
        · subst e; exact nb
        · rw [upd_ne e] at np; exact np
      have sm : Same H1 (upd (upd H1 b (SetO X.w b (fun j => decide (j ∈ is)) c)) p' (.lst ((riseI is).map V.int))) := fun y o w => by rw [upd_ne (ne_of_none w nbp), upd_ne (ne_of_none w nb)]; exact w
      exact z _ _ (s1.trans sm) ⟨p', _, _, rfl, rfl, s1.free nbp, upd_same, ints_rps _⟩
    | _ => cases hq
end
end PL

/- PL, the part for a dict of numbers, sorted(list), steps of range, loops over what turns things -/
namespace PL
open PySem PySem.Spec PyProof.Rows L2
/-! ### the dict -/
theorem valV_dk (n : Int) : ∀ ks : List Int, valV (dkOf ks) (.inl n) = if n ∈ ks then some (.bl true) else none
  | [] => rfl
  | k :: ks => by
    show valV ((Sum.inl k, V.bl true) :: dkOf ks) (.inl n) = _
    by_cases e : k = n
    · subst e
      rw [valV_pos (p := (Sum.inl k, V.bl true)) rfl, if_pos List.mem_cons_self]
    · rw [valV_neg (p := (Sum.inl k, V.bl true)) (fun z => e (Sum.inl.inj z)), valV_dk n ks]
      by_cases h : n ∈ ks
      · rw [if_pos h, if_pos (List.mem_cons_of_mem _ h)]
      · rw [if_neg h, if_neg (fun z => (List.mem_cons.mp z).elim (fun z => e z.symm) h)]
def putD (ks : List Int) (n : Int) : List Int := if n ∈ ks then ks else ks ++ [n]
theorem dk_same (n : Int) : ∀ ks : List Int, (dkOf ks).map (fun kv => if kv.1 = .inl n then (kv.1, V.bl true) else kv) = dkOf ks
  | [] => rfl
  | k :: ks => by
    show (if (Sum.inl k : Key) = .inl n then ((Sum.inl k : Key), V.bl true) else (.inl k, .bl true)) :: (dkOf ks).map _ = (.inl k, .bl true) :: dkOf ks
    rw [dk_same n ks, ite_self]
theorem putK_dk (ks : List Int) (n : Int) : putK (dkOf ks) (.inl n) (.bl true) = dkOf (putD ks n) := by
  unfold putK putD
  rw [valV_any, valV_dk]
  by_cases h : n ∈ ks
  · rw [if_pos h, if_pos h, if_pos (show (some (V.bl true)).isSome = true from rfl), dk_same]
  · rw [if_neg h, if_neg h, if_neg (by simp)]
    unfold dkOf
    rw [List.map_append]
    rfl
def dctAt (s : Option Sl) : Option (List Int) := match s with
  | some (.o (.dct ks)) => some ks
  | _ => none
theorem dctAt_some {s : Option Sl} {ks : List Int} (h : dctAt s = some ks) : s = some (.o (.dct ks)) := by
  unfold dctAt at h
  split at h
  · cases h; rfl
  · cases h
/-! ### sorted of ints -/
def insL (i : Int) : List Int → List Int
  | [] => [i]
  | j :: js => if i ≤ j then i :: j :: js else j :: insL i js
def sortI : List Int → List Int
  | [] => []
  | i :: is => insL i (sortI is)
theorem insL_perm (i : Int) : ∀ js, (insL i js).Perm (i :: js)
  | [] => .refl _
  | j :: js => by
    rw [insL]
    split
    · exact .refl _
    · exact ((insL_perm i js).cons j).trans (.swap i j js)
theorem sortI_perm : ∀ is, (sortI is).Perm is
  | [] => .nil
  | i :: is => (insL_perm i _).trans ((sortI_perm is).cons i)
theorem insL_le (i : Int) : ∀ {js : List Int}, js.Pairwise (· ≤ ·) → (insL i js).Pairwise (· ≤ ·)
  | [], _ => by simp [insL]
  | j :: js, h => by
    rw [List.pairwise_cons] at h
    rw [insL]
    split
    · rename_i hi
      refine List.pairwise_cons.mpr ⟨fun k hk => ?_, List.pairwise_cons.mpr h⟩
      rcases List.mem_cons.mp hk with rfl | hk
      · exact hi
      · have := h.1 k hk; omega
    · rename_i hi
      refine List.pairwise_cons.mpr ⟨fun k hk => ?_, insL_le i h.2⟩
      rcases List.mem_cons.mp ((insL_perm i js).mem_iff.mp hk) with rfl | hk
      · omega
      · exact h.1 k hk
theorem sortI_le : ∀ is, (sortI is).Pairwise (· ≤ ·)
  | [] => .nil
  | i :: is => insL_le i (sortI_le is)
theorem sort_uniq : ∀ {xs ys : List Int}, xs.Pairwise (· ≤ ·) → ys.Pairwise (· ≤ ·) → xs.Perm ys → xs = ys
  | [], ys, _, _, p => (p.symm.eq_nil).symm
  | x :: xs, [], _, _, p => by have := p.eq_nil; cases this
  | x :: xs, y :: ys, hx, hy, p => by
    rw [List.pairwise_cons] at hx hy
    have exy : x = y := by
      have h1 := p.mem_iff.mp (List.mem_cons_self (a := x) (l := xs))
      have h2 := p.mem_iff.mpr (List.mem_cons_self (a := y) (l := ys))
      rcases List.mem_cons.mp h1 with e | h1
      · exact e
      · rcases List.mem_cons.mp h2 with e | h2
        · exact e.symm
        · have := hx.1 y h2; have := hy.1 x h1; omega
    subst exy
    exact congrArg _ (sort_uniq hx.2 hy.2 (List.perm_cons x |>.mp p))
def sortedM (d : PyData) : Option PyData := match d with
  | .list ds => (intsOf ds).map fun is => .list ((sortI is).map .int)
  | _ => none
section
variable {X : Cx} {B : Bd} {W : WX} {rk : Kd} {xo : XO} {st : Stmt} {rest body els : List Stmt} {e a b c : Expr} {es : List Expr} {m ma mb mc : ME} {mx nx : MX} {mt : MT} {s1 s2 : MS} {k k1 k2 k3 : Kd} {pos p p2 apos dpos cp : Pos} {x : Str} {n : Nat} {fm : FM}
/-- sorted(xs) of ints -/
theorem pm_sorted (hm : X.mg "sorted" = none) (hg : Gl X "sorted") (ha : PEm X xo k1 e m) (hv : bootBuiltins "sorted" = some (.builtin "sorted") := by decide +kernel)
    (hs : starEach [e] X.env = [(false, eval e X.env)] := by rfl) : PEm X xo .new (.Call (.Name "sorted" p) [e] [] pos) (mUn sortedM m) :=
  (pe_callB cr_sortedI hg hm hv (pa_cons ha pa_nil hs) (by decide) (by decide) hs).weak fun σ H Q ⟨ρ, d, R, hq, z⟩ => by
    obtain ⟨y, q1, hq⟩ := Option.bind_eq_some_iff.mp hq
    refine ⟨ρ, y, R, q1, fun v H1 s1 r1 => ?_⟩
    cases y with
    | list ds =>
      obtain ⟨is, q2, rfl⟩ := Option.map_eq_some_iff.mp hq
      obtain ⟨a, xs, rfl, sq, rr⟩ := r1.toAny.list
      obtain ⟨rfl, rfl⟩ := ints_v rr q2
      refine ⟨a, is, rfl, sq, fun ns' p' h1 h2 np => ?_⟩
      have e1 : ns' = sortI is := sort_uniq h2 (sortI_le is) (h1.trans (sortI_perm is).symm)
      subst e1
      exact z _ _ (s1.trans (same_new np _)) ⟨p', _, _, rfl, rfl, s1.free np, upd_same, ints_rps _⟩
    | _ => cases hq
theorem rd_dct {K : PySem.W.Frag} {H : Hp} {σ : L2.St} {ρ : Rho} {i : Nat} {ks : List Int} (R : RdOk K xo H σ ρ) (h : dctAt ρ[i]? = some ks) : ∃ y, σ[i]? = some (some (.ref y)) ∧ H y = some (.dK (dkOf ks)) := by
  have r := R.rd i _ (dctAt_some h)
  generalize hs : σ[i]? = v at r
  cases r with | o r => cases r with | dct ea => exact ⟨_, rfl, ea⟩
/-- n in the dict -/
def mDIn (i : Nat) (m : ME) : MT := fun ρ => match m ρ, dctAt ρ[i]? with
  | some (.int n), some ks => some (decide (n ∈ ks))
  | _, _ => none
theorem pq_din (hu : X.A.units + 200 < cLine) (ha : PEm X xo k e m) (i : Nat) (hN : X.N[i]? = some x := by rfl) (hv : Vis X.env.scope x := by first | exact Or.inl rfl | exact Or.inr (Or.inl rfl) | exact Or.inr (Or.inr rfl)) (hd : (x == ("__debug__" : Str)) = false := by decide)
    (hcd : (x == ("__classdict__" : Str)) = false := by decide) : PTm X xo (.Compare e [.In] [.Name x p] pos) (mDIn i m) := (pt_cmp (pc_din (by omega) ha (pe_var (i := i) hN hv hd hcd)) (by rfl)).weak fun σ H Q ⟨ρ, y, R, q, z⟩ => by
  unfold mDIn at q
  split at q
  · rename_i n ks h1 h2
    cases q
    refine ⟨ρ, _, R, h1, fun v H1 s r => ?_⟩
    obtain ⟨w, e1, ea⟩ := rd_dct (R.mono s) h2
    have rv := r.toAny.int
    subst rv
    refine ⟨_, e1, w, _, rfl, DGet.k (k := .inl n) ea, _, rfl, ?_⟩
    have e2 : (valV (dkOf ks) (.inl n)).isSome = decide (n ∈ ks) := by
      rw [valV_dk]
      by_cases h : n ∈ ks
      · rw [if_pos h]; simp [h]
      · rw [if_neg h]; simp [h]
    show Q (valV (dkOf ks) (.inl n)).isSome H1
    rw [e2]
    exact z H1 s
  · cases q
/-- list(the dict) -/
def mListD (i : Nat) : ME := fun ρ => (dctAt ρ[i]?).map fun ks => .list (ks.map .int)
theorem pm_listD (hc : X.calm = true) (hm : X.mg "list" = none) (hg : Gl X "list") (i : Nat) (hN : X.N[i]? = some x := by rfl) (hv : Vis X.env.scope x := by first | exact Or.inl rfl | exact Or.inr (Or.inl rfl) | exact Or.inr (Or.inr rfl)) (hd : (x == ("__debug__" : Str)) = false := by decide)
    (hcd : (x == ("__classdict__" : Str)) = false := by decide) (hs : starEach [.Name x p2] X.env = [(false, eval (.Name x p2) X.env)] := by rfl) : PEm X xo .new (.Call (.Name "list" p) [.Name x p2] [] pos) (mListD i) :=
  (pe_callTy (call_list_dK hc) hg hm boot_list (pa_cons (pe_var (i := i) hN hv hd hcd) pa_nil hs) (by decide) (by decide) hs).weak fun σ H Q ⟨ρ, d, R, q, z⟩ => by
    obtain ⟨ks, h1, rfl⟩ := Option.map_eq_some_iff.mp q
    obtain ⟨w, e1, ea⟩ := rd_dct R h1
    refine ⟨_, e1, w, _, rfl, ea, fun q nq => ?_⟩
    have e2 : (dkOf ks).map (fun kv => kV kv.1) = ks.map V.int := by unfold dkOf; rw [List.map_map]; rfl
    rw [e2]
    exact z _ _ (same_new nq _) ⟨q, _, _, rfl, rfl, nq, upd_same, ints_rps _⟩
/-- name = {n: True} -/
def sDNew (i : Nat) (m : ME) : MS := fun ρ => match m ρ with
  | some (.int n) => if isO ρ[i]? = true ∨ ρ.length ≤ i then .stuck else .nx (ρ.set i (.o (.dct [n])))
  | _ => .stuck
theorem sm_dnew {i : Nat} {pos' : Pos} {j : Nat} (hN : X.N.Nodup) (hi : X.N[i]? = some x) (hx : Loc X.env.scope x) (he : PEm X B.xo .per e m)
    (hs : swapsWith (.Dict [some e] [.Constant (.bool true) j cp] dpos) (some (.Name x pos')) pos.line X.env = pure false := by rfl)
    (hf : X.fn x = true ∨ X.env.scope.names.lookup x = some .local := by first | exact .inl rfl | exact .inr rfl | assumption) : PSm X B W rk (.Assign [.Name x pos'] (.Dict [some e] [.Constant (.bool true) j cp] dpos) pos) (sDNew i m) :=
  (ps_set hN hi hx (pe_disp (pps_cons he pe_bl pps_nil) (by rfl) (by rfl) (by simp) (by show 1 ≤ 15; decide)) hs hf).weak fun D σ H ⟨ρ, φ, E, q⟩ => by
    unfold sDNew at q
    split at q
    · rename_i n h1
      split at q
      · exact q.elim
      · rename_i hn
        have hn : ¬ isO ρ[i]? = true ∧ i < ρ.length := ⟨fun z => hn (.inl z), by omega⟩
        intro y ny
        have s0 : Same H (upd H y (.dK [])) := same_new ny _
        refine ⟨ρ, _, (E.same s0).rd, h1, fun v H1 s r => ?_⟩
        have rv := r.toAny.int
        subst rv
        refine ⟨s _ _ upd_same, [(.inl n, .bl true)], rfl, (by show 1 ≤ 15; decide), ?_⟩
        have s2 : Same H (upd H1 y (.dK (mergeK [] [(.inl n, .bl true)]))) := fun b o z => by rw [upd_ne (ne_of_none z ny)]; exact s _ _ (s0 _ _ z)
        exact q _ _ _ (E.setAs (isO_no (Bool.eq_false_iff.mpr hn.1)) hn.2 s2 ny (.dct upd_same)) ⟨fun b o _ h => s2 b o h, fun j b z => z.elim (fun z => .inr (by rw [z.2]; exact ny)) fun z => .inl ⟨j, z⟩⟩
    · exact q.elim
/-- the dict[n] = True -/
def sDSet (i : Nat) (m : ME) : MS := fun ρ => match m ρ, dctAt ρ[i]? with
  | some (.int n), some ks => if ks.length < sizeLine then .nx (ρ.set i (.o (.dct (putD ks n)))) else .stuck
  | _, _ => .stuck
theorem sm_dput {i : Nat} {pos' : Pos} {j : Nat} (hu : X.A.units + 200 < cLine) (he : PEm X B.xo .per e m) (hN : X.N[i]? = some x := by rfl) (hv : Vis X.env.scope x := by first | exact Or.inl rfl | exact Or.inr (Or.inl rfl) | exact Or.inr (Or.inr rfl)) (hd : (x == ("__debug__" : Str)) = false := by decide)
    (hcd : (x == ("__classdict__" : Str)) = false := by decide)
    (hs : swapsWith (.Constant (.bool true) j cp) (some (.Subscript (.Name x p) e pos')) pos.line X.env = pure false := by rfl) : PSm X B W rk (.Assign [.Subscript (.Name x p) e pos'] (.Constant (.bool true) j cp) pos) (sDSet i m) :=
  (ps_dput (by omega) (pe_var (i := i) hN hv hd hcd) he pe_bl hs).weak fun D σ H ⟨ρ, φ, E, q⟩ => by
    unfold sDSet at q
    split at q
    · rename_i n ks h1 h2
      by_cases hl : ks.length < sizeLine
      · rw [if_pos hl] at q
        have h2 := dctAt_some h2
        obtain ⟨y, e1, r⟩ := E.own h2
        generalize hfp : φ i = fp at r
        cases r with
        | dct ea =>
          refine ⟨_, e1, ρ, _, E.rd, h1, fun v H1 s r1 => ?_⟩
          have rv := r1.toAny.int
          subst rv
          refine ⟨y, _, rfl, DPut.k (k := .inl n) (s _ _ ea) (by rw [List.length_map]; exact hl), ?_⟩
          rw [putK_dk]
          have k : ∀ b o, ¬ φ i b → H1 b = some o → upd H1 y (.dK (dkOf (putD ks n))) b = some o := fun b o n' z => by
            have n2 : b ≠ y := fun e => n' (by rw [hfp]; exact e)
            rw [upd_ne n2]; exact z
          have sb : ∀ b, b = y → φ i b ∨ H1 b = none := fun b z => .inl (by rw [hfp]; exact z)
          refine q _ _ _ (EnvOk.turn (E.same s) h2 e1 k (.dct upd_same) sb fun b z => ?_) ((Ev.same s).trans (Ev.turn (K := X.K) k sb))
          rw [hfp] at z
          have z : b = y := z
          subst z
          exact ⟨_, upd_same⟩
      · rw [if_neg hl] at q; exact q.elim
    · exact q.elim
/-! ### for over range(i, j, -1) -/
def rngC (lo c : Int) (n : Nat) : List PyData := (List.range n).map fun (j : Nat) => .int (lo + (j : Int) * c)
theorem rngC_get {lo c : Int} {n j : Nat} (h : j < n) : (rngC lo c n)[j]? = some (.int (lo + (j : Int) * c)) := by
  unfold rngC
  rw [List.getElem?_map, List.getElem?_range h]
  rfl
theorem rngC_len {lo c : Int} {n : Nat} : (rngC lo c n).length = n := by unfold rngC; rw [List.length_map, List.length_range]
def mR3 (ma mb mc : ME) : ML := fun ρ => match ma ρ, mb ρ, mc ρ with
  | some (.int i), some (.int j), some (.int l) => if l = -1 ∧ (-(2 ^ 62) ≤ i ∧ i < 2 ^ 62) ∧ -(2 ^ 62) ≤ j ∧ j < 2 ^ 62 then some (rngC i (-1) (i - j).toNat) else none
  | _, _, _ => none
theorem sm_forR3 {i : Nat} {tg : Expr} {sb : MS} (hp : PassesOwn (model X.prog X.w) X.A X.env X.xe) (hc : X.calm = true) (hg : Gl X "range") (hm : X.mg "range" = none) (ha : PEm X B.xo k1 a ma) (hb' : PEm X B.xo k2 b mb) (hc' : PEm X B.xo k3 c mc) (ht : PG X tg (gName i)) (hb : PSsm X B W rk body sb)
    (hs : starEach [a, b, c] X.env = (false, eval a X.env) :: starEach [b, c] X.env := by rfl) (hs2 : starEach [b, c] X.env = (false, eval b X.env) :: starEach [c] X.env := by rfl) (hs3 : starEach [c] X.env = [(false, eval c X.env)] := by rfl)
    (hf : ∀ x, foldedSetIterable (.Call (.Name "range" p) [a, b, c] [] pos) X.env x = pure x := by intro _; rfl) {fpos : Pos} :
    PSm X B W rk (.For tg (.Call (.Name "range" p) [a, b, c] [] pos) body [] fpos) (sFor i (mR3 ma mb mc) sb) :=
  (ps_for hp hc (pi_range3 hg hm (pa_cons ha (pa_cons hb' (pa_cons hc' pa_nil hs3) hs2) hs) hs (by rw [hs2, hs3]; rfl)) ht hb hf).weak fun D σ H ⟨ρ, φ, E, q⟩ => by
    unfold sFor mR3 at q
    split at q
    · rename_i es e1
      split at e1
      · rename_i i0 j0 l0 h1 h2 h3
        obtain ⟨c, rfl⟩ := some_if e1
        obtain ⟨rfl, c1, c2⟩ := c
        refine ⟨ρ, _, E.rd, h1, fun v H1 s r => ⟨ρ, _, E.rd.mono s, h2, fun u H2 s2 r2 => ⟨ρ, _, (E.rd.mono s).mono s2, h3, fun w H3 s3 r3 => ?_⟩⟩⟩
        have E3 := ((E.same s).same s2).same s3
        have w3 := ((Ev.same (φ := φ) s).trans (Ev.same s2)).trans (Ev.same s3)
        refine ⟨i0, j0, -1, _, by rw [r.toAny.int, r2.toAny.int, r3.toAny.int], .neg c1.1 c1.2 c2.1 c2.2, ?_⟩
        refine for_rangeC (fun j σ H => ∃ ρ φ, EnvOk X.K B H σ ρ φ ∧ Post X.K B W rk D H φ (forL i sb ((rngC i0 (-1) (i0 - j0).toNat).drop j) ρ)) ⟨ρ, φ, E3, q.mono w3⟩ (fun j σ H hj ⟨ρ, φ, E, q⟩ => ?_) fun σ H ⟨ρ, φ, E, q⟩ => ?_
        · exact turn_body E q (rngC_get hj) (.int _) (fun σ' H' ρ' φ' E' w q' => ⟨ρ', φ', E', q'⟩) rfl
        · rw [List.drop_eq_nil_of_le (by rw [rngC_len]; exact Nat.le_refl _)] at q
          exact q σ H φ E (Ev.refl _ _)
      · cases e1
    · exact q.elim
/-! ### own.pop(), as a value -/
def xPop (i : Nat) : MX := fun ρ => match ρ[i]? with
  | some (.o (.lst ds)) => match ds[ds.length - 1]? with
    | some d => .val d (ρ.set i (.o (.lst ds.dropLast)))
    | none => .stuck
  | _ => .stuck
theorem px_pop {i : Nat} {o : Expr} (hbm : PE X (.Call (.Attribute o "pop" apos) [] [] cp) (tBM0 X.K "list" rPop (tVar i))) : PXm X B W (.Call (.Attribute o "pop" apos) [] [] cp) (xPop i) :=
  hbm.weak fun σ H Q ⟨ρ, φ, E, q⟩ => by
    unfold xPop at q
    split at q
    · rename_i ds h1
      split at q
      · rename_i d h2
        obtain ⟨a, e1, r⟩ := E.own h1
        generalize hfp : φ i = fp at r
        cases r with
        | @lst _ xs _ ea r =>
          obtain ⟨v, hv, rv⟩ := r.get h2
          refine ⟨_, e1, .inl ⟨rfl, _, SqL.of ea⟩, a, xs, v, rfl, rfl, ea, by rw [r.length]; exact hv, ?_⟩
          have k : ∀ b o, ¬ φ i b → H b = some o → upd H a (.lst xs.dropLast) b = some o := fun b o n z => by
            have n' : b ≠ a := fun e => n (by rw [hfp]; exact e)
            rw [upd_ne n']; exact z
          have f : Firm H (upd H a (.lst xs.dropLast)) := ⟨fun b ys z => by rw [upd_ne (ne_of z ea (by intro z; cases z))]; exact z, fun b o u z => by rw [upd_ne (ne_of z ea (by intro z; cases z))]; exact z⟩
          have sb : ∀ b, b = a → φ i b ∨ H b = none := fun b z => .inl (by rw [hfp]; exact z)
          refine q _ _ _ (EnvOk.turn E h1 e1 k (.lst upd_same (r.dropLast.mono f)) sb fun b z => ?_) (Ev.turn (K := X.K) k sb) (rv.mono f)
          rw [hfp] at z
          have z : b = a := z
          subst z
          exact ⟨_, upd_same⟩
      · exact q.elim
    · exact q.elim
/-! ### borrowed[what turns things] -/
def xIxB (i : Nat) (mx : MX) : MX := fun ρ => match ρ[i]? with
  | some (.b ds) => match mx ρ with
    | .val y ρ1 => xOut (ixM (.list ds) y) ρ1
    | o => o
  | _ => .stuck
theorem px_ixB (i : Nat) (hb : PXm X B W b mx) (hs : PlainIx b := by intro _ _; rfl) (hN : X.N[i]? = some x := by rfl) (hv : Vis X.env.scope x := by first | exact Or.inl rfl | exact Or.inr (Or.inl rfl) | exact Or.inr (Or.inr rfl)) (hd : (x == ("__debug__" : Str)) = false := by decide)
    (hcd : (x == ("__classdict__" : Str)) = false := by decide) : PXm X B W (.Subscript (.Name x p) b pos) (xIxB i mx) := (pe_frz (pe_ix ix_seq (pe_var (i := i) hN hv hd hcd) hb hs)).weak fun σ H Q ⟨ρ, φ, E, q⟩ => by
  unfold xIxB at q
  split at q
  · rename_i ds h1
    have r := E.sl i _ h1
    generalize hsv : σ[i]? = v at r
    cases r with
    | @b a xs _ qa r _ =>
      refine ⟨_, hsv, tX_val (f := fun y ρ1 => xOut (ixM (.list ds) y) ρ1) E q fun u y ρ1 H1 φ1 E1 w1 r1 q => ?_⟩
      obtain ⟨d, h, q⟩ := q.out
      have qb := LA.mono qa w1
      have sq : SqL X.K H1 a xs := sql_iff.mpr (qb.elim (fun z => .inl z.1) .inr)
      exact r2_ix _ u H1 _ _ y d (.seq sq (r.mono (w1.firm E))) (.per r1) h fun v' H' s r => out_frz (k := .per) (by intro z; cases z) E1 w1 q s r
  · exact q.elim
/-! ### for over what turns things -/
def sForX (i : Nat) (mx : MX) (body : MS) : MS := fun ρ => match mx ρ with
  | .val d ρ1 => match itemsOf d with
    | some ds => forL i body ds ρ1
    | none => .stuck
  | .ex c ρ1 => .ex c ρ1
  | .stuck => .stuck
theorem sm_forX {i : Nat} {tg iter : Expr} {sb : MS} (hp : PassesOwn (model X.prog X.w) X.A X.env X.xe) (hc : X.calm = true) (hi : PXm X B W iter mx) (hg : PG X tg (gName i)) (hb : PSsm X B W rk body sb)
    (hs : ∀ x, foldedSetIterable iter X.env x = pure x := by intro _; rfl) : PSm X B W rk (.For tg iter body [] pos) (sForX i mx sb) := (ps_for hp hc (pi_seq hi) hg hb hs).weak fun D σ H ⟨ρ, φ, E, q⟩ => by
  refine ⟨ρ, φ, E, ?_⟩
  unfold sForX at q
  cases h : mx ρ with
  | stuck => rw [h] at q; exact q.elim
  | ex c ρ1 => rw [h] at q; exact q σ
  | val d ρ1 =>
    rw [h] at q
    intro v H1 φ1 E1 w1 r1
    simp only at q
    split at q
    · rename_i ds hd
      have q := q.mono w1
      have fin : ∀ (xs : List V), Rps X.K H1 xs ds → let Pv : Nat → L2.St → Hp → Prop := fun n σ H => ∃ ρ φ, EnvOk X.K B H σ ρ φ ∧ Firm H1 H ∧ Post X.K B W rk D H φ (forL i sb (ds.drop n) ρ)
          Pv 0 σ H1 ∧ (∀ σ H, Pv xs.length σ H → D.nx σ H) ∧ ∀ n x σ H, xs[n]? = some x → Pv n σ H → gName i x σ H fun σ2 H2 => tS X.K B W rk sb { D with nx := Pv (n + 1), ct := Pv (n + 1), bk := D.nx } σ2 H2 := fun xs r => by
        refine ⟨⟨ρ1, φ1, E1, Firm.refl _, q⟩, fun σ H ⟨ρ, φ, E, _, q⟩ => ?_, fun n x σ H hx ⟨ρ, φ, E, f, q⟩ => ?_⟩
        · rw [List.drop_eq_nil_of_le (by rw [r.length]; exact Nat.le_refl _)] at q
          exact q σ H φ E (Ev.refl _ _)
        · obtain ⟨d, hd, rd⟩ := (r.mono f).get' hx
          exact turn_body E q hd rd (fun σ' H' ρ' φ' E' w q' => ⟨ρ', φ', E', f.trans (w.firm E), q'⟩) rfl
      cases r1 with
      | @lst a o xs es e1 r =>
        cases hd
        obtain ⟨P0, f, turn⟩ := fin xs r
        exact ⟨a, xs, rfl, .inl ⟨.inl (.inr ⟨_, e1⟩), fun _ => for_list (K := X.K) (a := a) (xs := xs) _ P0 (fun n σ H _ ⟨ρ, φ, E, g, _⟩ => .inl (.inr ⟨_, g.frz _ _ _ e1⟩)) turn f⟩⟩
      | @tup a xs es e1 r =>
        cases hd
        obtain ⟨P0, f, turn⟩ := fin xs r
        exact ⟨a, xs, rfl, .inr ⟨e1, fun _ => for_tup (K := X.K) (a := a) (xs := xs) _ P0 (fun n σ H _ ⟨ρ, φ, E, g, _⟩ => g.sqt e1) turn f⟩⟩
      | _ => cases hd
    · exact q.elim
end
end PL

/- PL, the part for a def that hands back a new list and data, as a pair; insert -/
namespace PL
open PySem PySem.Spec PyProof.Rows L2
/-- a def that is handed no own thing -/
def runF0 (n np : Nat) (m : MS) : FM := fun args => if (args.any fun s => isO (some s)) = true then .stuck else runF n np m args
theorem spM_len0 {K : PySem.W.Frag} {rk : Kd} {n np : Nat} {m : MS} {vs : List V} {H : Hp} {Q : VK} {E : XK} (h : spM K rk (runF0 n np m) vs H Q E) : vs.length = np := by
  obtain ⟨args, φ, A, q⟩ := h
  refine spM_len (K := K) (rk := rk) (n := n) (m := m) (H := H) (Q := Q) (E := E) ⟨args, φ, A, ?_⟩
  unfold runF0 at q
  split at q
  · rename_i h1; split at h1
    · cases h1
    · rw [h1]; exact q
  · rename_i h1; split at h1
    · cases h1
    · rw [h1]; exact q
  · exact q.elim
section
variable {P : Program} {w : World} {K : PySem.W.Frag} {mg : Str → Option Value} {base : Heap} {x qual : Str} {params : Arguments} {body : List Stmt} {scope : Scope} {dvs : List V} {kws : List (Str × V)} {f : Addr} {fd : FuncData}
theorem fn_ok0 {N ps : List Str} {k : Nat} {rk : Kd} {m : MS} (F : FunD K x qual params body scope dvs kws f fd) (S : FnScope N ps scope) (hn : ps.length ≤ N.length)
    (hb : ∀ (cdv : Value) (A : Around) (outer : List Env) (s : Shared) (H : Hp) (E : XK) (B : Bd), Room k (A.deeper (envOfC qual scope s.heap.objs.size f cdv)) → ((∀ i, ps.length ≤ i → B.io i = none) ∧ ∀ b, ¬ B.F0 b) →
      PSsm (cxOf (L2.CX P w) P w K mg base N qual scope f cdv A outer s H E) B (fun cls d _ H => E cls d H) rk body m) :
    FnOk P w K mg base (L2.CX P w) (k + 1) f fd ps (spM K rk (runF0 N.length ps.length m)) := by
  refine F.ok S (fun vs H Q E h => spM_len0 h) fun cdv A outer s H vs Q E hr h => ?_
  obtain ⟨args, φ, Ar, q⟩ := h
  have hv : vs.length = ps.length := spM_len0 ⟨args, φ, Ar, q⟩
  have hB : ∀ i, ps.length ≤ i → (bdOf H vs args φ).io i = none := fun i hi => by
    have el : vs.length = args.length := by have := Ar.len; rwa [List.length_map] at this
    show ioOf vs args i = none
    unfold ioOf
    rw [show args[i]? = none from List.getElem?_eq_none_iff.mpr (by omega)]
  unfold runF0 at q
  cases ho : (args.any fun s => isO (some s)) with
  | true => rw [if_pos ho] at q; exact q.elim
  | false =>
    rw [if_neg (by rw [ho]; decide)] at q
    have hF : ∀ b, ¬ (bdOf H vs args φ).F0 b := fun b ⟨j, z⟩ => Ar.notOwn (i := j) (fun ob e => by
      rw [List.any_eq_false] at ho
      exact ho _ (List.mem_of_getElem? e) rfl) b z
    refine ⟨_, hb cdv A outer s H E (bdOf H vs args φ) hr ⟨hB, hF⟩, ?_⟩
    unfold runF at q
    by_cases hl : args.length = ps.length
    · rw [if_pos hl] at q
      refine ⟨_, φ, argsStart Ar hl hn, ?_⟩
      cases e : m (args ++ List.replicate (N.length - ps.length) .nil) with
      | nx ρ =>
        rw [e] at q
        intro σ H' φ' E' _
        have q : ∀ v H' φ', OutOk K H vs args φ H' (outs args ρ) φ' → RKr K rk (bdOf H vs args φ) H' φ' v .none → Q v H' := q
        exact q .non H' _ (EnvOk.outOk Ar E') (by cases rk <;> first | exact Rp.non | exact .inl Rp.non | exact .inl ⟨rfl, rfl⟩)
      | rt d ρ =>
        rw [e] at q
        intro v σ H' φ' E' r
        have q : ∀ v H' φ', OutOk K H vs args φ H' (outs args ρ) φ' → RKr K rk (bdOf H vs args φ) H' φ' v d → Q v H' := q
        refine q v H' _ (EnvOk.outOk Ar E') ?_
        cases rk with
        | per => exact r
        | new => exact r.imp id (Or.imp (fun ⟨t, a, w, xs, ds, d2, e1, e2, sq, n, ha, r, rw, nj⟩ => ⟨t, a, w, xs, ds, d2, e1, e2, sq, n, ha, r, rw, fun j hj z => nj j hj z.2⟩) fun ⟨a, xs, ds, e1, e2, n, ha, r, nj⟩ => ⟨a, xs, ds, e1, e2, n, ha, r, fun j hj z => nj j hj z.2⟩)
        | _ => exact r.imp id fun ⟨a, xs, ds, e1, e2, n, ha, r, nj⟩ => ⟨a, xs, ds, e1, e2, n, ha, r, fun j hj z => nj j hj z.2⟩
      | ex c ρ =>
        rw [e] at q
        intro σ H' φ' E' _
        have q : ∀ H' φ', OutOk K H vs args φ H' (outs args ρ) φ' → E (.ref (He.ga K c)) none H' := q
        exact q H' _ (EnvOk.outOk Ar E')
      | bk ρ => rw [e] at q; exact q.elim
      | ct ρ => rw [e] at q; exact q.elim
      | stuck => rw [e] at q; exact q.elim
    · rw [if_neg hl] at q
      exact q.elim
end
section
variable {X : Cx} {B : Bd} {W : WX} {rk : Kd} {xo : XO} {st : Stmt} {rest body els : List Stmt} {e a b c : Expr} {es : List Expr} {m ma mb mc : ME} {mx nx : MX} {ms : MA} {ks : List Bool} {k k1 k2 k3 : Kd} {pos p p2 apos cp : Pos} {x : Str} {n : Nat} {fm : FM}
/-- return (own, data) -/
def sRetTN (i : Nat) (m : ME) : MS := fun ρ => match ρ[i]?, m ρ with
  | some (.o (.lst ds)), some d2 => .rt (.tuple [.list ds, d2]) ρ
  | _, _ => .stuck
theorem sm_retTN {i j : Nat} (hio : B.io i = none) (hF : ∀ b, ¬ B.F0 b) (he : PEm X B.xo .per e m) (hN : X.N[i]? = some x := by rfl) (hv : Vis X.env.scope x := by first | exact Or.inl rfl | exact Or.inr (Or.inl rfl) | exact Or.inr (Or.inr rfl)) (hd : (x == ("__debug__" : Str)) = false := by decide)
    (hcd : (x == ("__classdict__" : Str)) = false := by decide) (hs : starEach [.Name x p2, e] X.env = (false, eval (.Name x p2) X.env) :: starEach [e] X.env := by rfl) (hs2 : starEach [e] X.env = [(false, eval e X.env)] := by rfl) :
    PSm X B W .new (.Return (some (.Tuple [.Name x p2, e] j cp)) pos) (sRetTN i m) :=
  (ps_ret (pe_tup (pa_cons (pe_var (i := i) hN hv hd hcd) (pa_cons he pa_nil hs2) hs))).weak fun D σ H ⟨ρ, φ, E, q⟩ => by
    unfold sRetTN at q
    split at q
    · rename_i ds d2 h1 h2
      obtain ⟨a, e1, r⟩ := E.own h1
      generalize hfp : φ i = fp at r
      cases r with
      | @lst _ xs _ ea r =>
        refine ⟨_, e1, ρ, d2, E.rd, h2, fun w H1 s rw => ⟨line100 (by show 2 ≤ 100; decide), fun t ht => ?_⟩⟩
        have s2 : Same H (upd H1 t (.tup [.ref a, w])) := s.trans (same_new ht _)
        have ha : φ i a := by rw [hfp]
        refine q _ σ _ φ (E.same s2) (.inr (.inl ⟨t, a, w, xs, ds, d2, rfl, rfl, .of upd_same, ?_, s2 _ _ ea, r.mono (firm s2), rw.mono (firm (same_new ht _)), fun j hj z => ?_⟩))
        · exact (E.sub i a ha).resolve_left (hF a)
        · exact hj (by rw [E.dis j i a z ha]; exact hio)
    · exact q.elim
/-- a, b = f(..) -/
def sUnp (i j : Nat) (ks : List Bool) (fm : FM) (ms : MA) : MS := fun ρ => match ms ρ with
  | some as => match fm (mkArgs ks as) with
    | .ret (.tuple [.list ds, d2]) _ => if (isO ρ[i]? = true ∨ isO ρ[j]? = true) ∨ ρ.length ≤ i ∨ i = j then .stuck else .nx ((ρ.set i (.o (.lst ds))).set j (.d d2))
    | _ => .stuck
  | none => .stuck
theorem sm_unp {i j kk : Nat} {elts : List Expr} {tpos : Pos} (G : FnT X.prog X.w X.K X.mg X.base n x .new fm) (hr : Room n X.A) (hg : Gl X x) (ha : PAm X B.xo ks (e :: es) ms) (ht : PG X (.Tuple elts kk tpos) (gTup X.K 2 (gCons (gName i) (gCons (gName j) gNil))))
    (hdb : (x == ("__debug__" : Str)) = false := by decide) (he : starEach (e :: es) X.env = (false, eval e X.env) :: starEach es X.env := by rfl)
    (hpl : (backTo cp (starEach es X.env)).any (·.1) = false := by rfl)
    (hs : swapsWithSole [.Tuple elts kk tpos] (.Call (.Name x p) (e :: es) [] cp) pos.line X.env = pure false := by rfl) (hw : swappedStores [.Tuple elts kk tpos] (.Call (.Name x p) (e :: es) [] cp) X.env = pure none := by rfl)
    (h1 : (assignEach [.Tuple elts kk tpos] X.env).map (·.2) = [assign (.Tuple elts kk tpos) X.env] := by rfl) :
    PSm X B W rk (.Assign [.Tuple elts kk tpos] (.Call (.Name x p) (e :: es) [] cp) pos) (sUnp i j ks fm ms) := by
  obtain ⟨f, fd, ps, F, hm, hk, hb⟩ := G.ex
  refine (ps_asg (pe_call F hr hg hm hk hb .nil passL ha hdb he hpl) ht hs hw h1).weak fun D σ H ⟨ρ, φ, E, q⟩ => ?_
  unfold sUnp at q
  split at q
  · rename_i as q1
    refine ⟨ρ, as, E.rd, q1, fun vs H1 s1 r1 => ?_⟩
    show spM X.K .new fm (vs ++ []) H1 _ E0
    rw [List.append_nil]
    refine ⟨mkArgs ks as, _, r1.argsOk, ?_⟩
    split at q
    · rename_i ds d2 obs ef
      rw [ef]
      intro v H' φ' O r
      have s : Same H1 H' := fun b o q => O.ev.st b o (fun ⟨_, z⟩ => z) q
      rcases r with ⟨_, z⟩ | ⟨t, a, w, xs, ds', d2', rfl, ed, sq, nn, ea, rr, rw, _⟩ | ⟨_, _, _, _, z, _⟩
      · cases z
      · cases ed
        split at q
        · exact q.elim
        · rename_i hc
          have h1 : isO ρ[i]? = false := Bool.eq_false_iff.mpr fun z => hc (.inl (.inl z))
          have h2 : isO ρ[j]? = false := Bool.eq_false_iff.mpr fun z => hc (.inl (.inr z))
          have h3 : i < ρ.length := Nat.lt_of_not_le fun z => hc (.inr (.inl z))
          have h4 : i ≠ j := fun z => hc (.inr (.inr z))
          have ss := s1.trans s
          refine ⟨t, _, rfl, sq, rfl, _, _, rfl, _, _, rfl, rfl, ?_⟩
          refine q _ _ _ ((E.setNew (isO_no h1) h3 ss (s1.free nn) ea rr).setD (isO_no (by rw [List.getElem?_set_ne h4]; exact h2)) rw) ⟨fun b o _ h => ss b o h, fun l b z => z.elim (fun z => .inr (by rw [z.2]; exact s1.free nn)) fun z => .inl ⟨l, z⟩⟩
      · cases z
    · exact q.elim
  · exact q.elim
/-- own.insert(k, d) -/
def sIns (i : Nat) (ma mb : ME) : MS := fun ρ => match ρ[i]?, ma ρ, mb ρ with
  | some (.o (.lst ds)), some (.int k), some d => if ds.length < sizeLine ∧ 0 ≤ k ∧ k < 2 ^ 63 then .nx (ρ.set i (.o (.lst (ds.take k.toNat ++ [d] ++ ds.drop k.toNat)))) else .stuck
  | _, _, _ => .stuck
def rIns : V → List V → Hp → VK → Prop := fun x vs H Q => ∃ (l : Addr) (xs : List V) (i : Int) (y : V), x = .ref l ∧ vs = [.int i, y] ∧ H l = some (.lst xs) ∧ xs.length < sizeLine ∧ 0 ≤ i ∧ i < 2 ^ 63 ∧
    Q .non (upd H l (.lst (xs.take i.toNat ++ [y] ++ xs.drop i.toNat)))
theorem mt_ins : MtR X "list.insert" rIns := mt_insert
theorem sm_ins {i : Nat} {o : Expr} (hbm : PE X (.Call (.Attribute o "insert" apos) [a, b] [] p) (tBM X.K "list" rIns (tVar i) (tCons (tE X.K B.xo k1 ma) (tCons (tE X.K B.xo .per mb) tNil))))
    (hq : swapsWith (.Call (.Attribute o "insert" apos) [a, b] [] p) none pos.line X.env = pure false := by rfl) :
    PSm X B W rk (.Expr (.Call (.Attribute o "insert" apos) [a, b] [] p) pos) (sIns i ma mb) := (ps_expr hbm hq).weak fun D σ H ⟨ρ, φ, E, q⟩ => by
  unfold sIns at q
  split at q
  · rename_i ds kx d h1 h2 h3
    split at q
    · rename_i hc
      obtain ⟨hl, c1, c2⟩ := hc
      obtain ⟨l, e1, r⟩ := E.own h1
      generalize hfp : φ i = fp at r
      cases r with
      | @lst _ xs _ ea r =>
        refine ⟨_, e1, .inl ⟨rfl, _, SqL.of ea⟩, ρ, _, E.rd, h2, fun u H1 s1 ru => ⟨ρ, _, E.rd.mono s1, h3, fun v H' s2 rv => ?_⟩⟩
        have eu := ru.toAny.int
        subst eu
        have s := s1.trans s2
        have k : ∀ b o, ¬ φ i b → H' b = some o → upd H' l (.lst (xs.take kx.toNat ++ [v] ++ xs.drop kx.toNat)) b = some o := fun b o n z => by
          have n' : b ≠ l := fun e => n (by rw [hfp]; exact e)
          rw [upd_ne n']; exact z
        have f : Firm H' (upd H' l (.lst (xs.take kx.toNat ++ [v] ++ xs.drop kx.toNat))) := ⟨fun b ys z => by rw [upd_ne (ne_of z (s _ _ ea) (by intro z; cases z))]; exact z, fun b o u z => by rw [upd_ne (ne_of z (s _ _ ea) (by intro z; cases z))]; exact z⟩
        have sb : ∀ b, b = l → φ i b ∨ H' b = none := fun b z => .inl (by rw [hfp]; exact z)
        have r' := r.mono (firm s)
        refine ⟨l, xs, kx, v, rfl, rfl, s _ _ ea, by rw [r.length]; exact hl, c1, c2, q _ _ _ (EnvOk.turn (E.same s) h1 e1 k (.lst upd_same ((((r'.take _).append (Rps.one rv)).append (r'.drop _)).mono f)) sb fun b z => ?_) ((Ev.same s).trans (Ev.turn (K := X.K) k sb))⟩
        rw [hfp] at z
        have z : b = l := z
        subst z
        exact ⟨_, upd_same⟩
    · exact q.elim
  · exact q.elim
end
end PL

/- PL, the part for methods that call themselves, and a list field handed back -/
namespace PL
open PySem PySem.Spec PyProof.Rows L2
theorem MtT.none {P : Program} {w : World} {K : PySem.W.Frag} {mg : Str → Option Value} {base : Heap} {n : Nat} {C m : Str} {rk : Kd} {f : Addr} {fd : FuncData} {ps : List Str} (hm : Meth K (He.ga K C) m f) (b : Binds K fd ps []) (c : Cls K (He.ga K C)) : MtT P w K mg base n C m rk (fun _ => .stuck) := by
  have no : ∀ vs H Q E, ¬ spM K rk (fun _ => .stuck) vs H Q E := fun vs H Q E ⟨_, _, _, q⟩ => q
  exact ⟨⟨f, fd, ps, ⟨fun vs H Q E h => absurd h (no vs H Q E), fun A outer s H args us vs Q E _ _ _ _ h => absurd h (no vs H Q E)⟩, hm, b⟩, c⟩
section
variable {X : Cx} {B : Bd} {W : WX} {rk : Kd} {xo : XO} {st : Stmt} {e a b c : Expr} {es : List Expr} {m ma mb mc : ME} {mx nx : MX} {ms : MXs} {ks : List Bool} {k k1 k2 k3 : Kd} {pos p p2 apos cp : Pos} {x y C f : Str} {n i : Nat} {fm : FM}
/-- return o.f, a list -/
def sRetFld (i : Nat) (C f : Str) : MS := fun ρ => match ρ[i]? with
  | some (.o (.ins C' fs)) => if C' = C then (match fs.lookup f with
      | some (.l ds) => .rt (.list ds) ρ
      | _ => .stuck) else .stuck
  | _ => .stuck
theorem sm_retFld (hio : B.io i = none) (hF : ∀ b, ¬ B.F0 b) (c : Cls X.K (He.ga X.K C)) (na : NoAttr X.K (He.ga X.K C) f) (hN : X.N[i]? = some y) (hv : Vis X.env.scope y := by first | exact Or.inl rfl | exact Or.inr (Or.inl rfl) | exact Or.inr (Or.inr rfl)) (hd : (y == ("__debug__" : Str)) = false := by decide) (hcd : (y == ("__classdict__" : Str)) = false := by decide)
    (hb : attributeBase (.Name y p) f X.env (eval (.Name y p) X.env) = eval (.Name y p) X.env := by rfl) : PSm X B W .new (.Return (some (.Attribute (.Name y p) f apos)) pos) (sRetFld i C f) :=
  (ps_ret (pe_fld (pe_var (i := i) hN hv hd hcd) hb)).weak fun D σ H ⟨ρ, φ, E, q⟩ => by
    unfold sRetFld at q
    split at q
    · rename_i C' fs h0
      by_cases hC : C' = C
      · rw [if_pos hC] at q
        subst hC
        split at q
        · rename_i ds e2
          obtain ⟨x, dx, vs, fp, h1, h2, h3, h4, h5⟩ := E.ins h0
          obtain ⟨l0, xs0, g1, g2, g3, g4⟩ := h4.lookL e2
          have hφ : φ i l0 := by rw [h5]; exact .inr (.inr g4)
          refine ⟨_, h1, x, _, dx, vs, _, rfl, h2, c, na, g1, q _ σ H φ E (.inr (.inr ⟨l0, xs0, ds, rfl, rfl, (E.sub i l0 hφ).resolve_left (hF l0), g2, g3, fun j hj z => ?_⟩))⟩
          exact hj (by rw [E.dis j i l0 z hφ]; exact hio)
        · exact q.elim
      · rw [if_neg hC] at q; exact q.elim
    · exact q.elim
/-- a call that may raise and hands back a new list, which is frozen -/
def xCallF (fm : FM) (ms : MXs) : MX := fun ρ => match ms ρ with
  | .vals as ρ' => match dsOf as with
    | some ds => match fm (ds.map .d) with
      | .ret (.list xs) _ => .val (.list xs) ρ'
      | .ret _ _ => .stuck
      | .ex c _ => .ex c ρ'
      | .stuck => .stuck
    | none => .stuck
  | .ex c ρ' => .ex c ρ'
  | .stuck => .stuck
theorem dsOf_some : ∀ {as : List XA} {ds : List PyData}, dsOf as = some ds → as = ds.map .d
  | [], _, h => by cases h; rfl
  | .d d :: as, _, h => by
    obtain ⟨ds, h1, rfl⟩ := Option.map_eq_some_iff.mp h
    rw [List.map_cons, dsOf_some h1]
  | .o _ :: _, _, h => by cases h
  | .r _ :: _, _, h => by cases h
  | .b _ :: _, _, h => by cases h
theorem slsOf_d (ρ : Rho) : ∀ ds : List PyData, slsOf ρ (ds.map XA.d) = some (ds.map Sl.d)
  | [] => rfl
  | d :: ds => by rw [List.map_cons, slsOf, slsOf_d ρ ds]; rfl
theorem okA_ds (ds : List PyData) : okA (ds.map XA.d) = true := by
  have h1 : ∀ ds : List PyData, oix (ds.map XA.d) = [] := fun ds => by
    induction ds with
    | nil => rfl
    | cons d ds ih => exact ih
  have h2 : ∀ ds : List PyData, rix (ds.map XA.d) = [] := fun ds => by
    induction ds with
    | nil => rfl
    | cons d ds ih => exact ih
  unfold okA
  rw [h1, h2]
  rfl
theorem px_callF (tk : Takes X W) (G : FnT X.prog X.w X.K X.mg X.base n x .new fm) (hr : Room n X.A) (hg : Gl X x) (ha : PXs X B W (e :: es) ms) (hdb : (x == ("__debug__" : Str)) = false := by decide) (he : starEach (e :: es) X.env = (false, eval e X.env) :: starEach es X.env := by rfl)
    (hpl : (backTo pos (starEach es X.env)).any (·.1) = false := by rfl) : PXm X B W (.Call (.Name x p) (e :: es) [] pos) (xCallF fm ms) := by
  obtain ⟨f, fd, ps, F, hm, hk, hb⟩ := G.ex
  refine (pe_frz (pe_callS F hr hg hm hk hb (fun σ => passAt tk σ) ha hdb he hpl)).weak fun σ H Q ⟨ρ, φ, E, q⟩ => ?_
  refine ⟨ρ, φ, E, ?_⟩
  unfold xCallF at q
  cases e1 : ms ρ with
  | stuck => rw [e1] at q; exact q.elim
  | ex c ρ' => rw [e1] at q; exact q
  | vals as ρ' =>
    rw [e1] at q
    intro vs H1 φ1 E1 v1 r1
    simp only at q
    split at q
    · rename_i ds hds
      have eas := dsOf_some hds
      subst eas
      refine ⟨ds.map .d, _, r1.argsOk E1 (slsOf_d ρ' ds) (okA_ds ds), ?_⟩
      have same : ∀ {H2 : Hp} {obs : List Ob} {φ2 : Nat → Addr → Prop}, OutOk X.K H1 vs (ds.map .d) (phiOf (ds.map XA.d) φ1) H2 obs φ2 → Same H1 H2 := fun O b o q => O.ev.st b o (fun ⟨j, i, z, _⟩ => by
        rw [List.getElem?_map] at z
        cases hx : ds[j]? with
        | none => rw [hx] at z; cases z
        | some d => rw [hx] at z; cases z) q
      cases ef : fm (ds.map .d) with
      | stuck => rw [ef] at q; exact q.elim
      | ex c obs =>
        rw [ef] at q
        intro H2 φ2 O
        exact q H2 φ1 (E1.same (same O)) (v1.trans (Ev.same (same O)))
      | ret d obs =>
        rw [ef] at q
        intro v H2 φ2 O r
        have s := same O
        cases d with
        | list xs =>
          refine out_frz (k := .new) (by intro z; cases z) E1 v1 q s ?_
          rcases r with ⟨_, z⟩ | ⟨_, _, _, _, _, _, _, z, _⟩ | ⟨a, xs, es, e1, e2, nn, ha, rr, _⟩
          · cases z
          · cases z
          · exact ⟨a, xs, es, e1, e2, nn, ha, rr⟩
        | _ => exact q.elim
    · exact q.elim
/-- x = a call that hands back a new list -/
def sNewX (i : Nat) (fm : FM) (ms : MXs) : MS := fun ρ => match ms ρ with
  | .vals as ρ' => match dsOf as with
    | some ds => match fm (ds.map .d) with
      | .ret (.list xs) _ => if isO ρ'[i]? = true ∨ ρ'.length ≤ i then .stuck else .nx (ρ'.set i (.o (.lst xs)))
      | .ret _ _ => .stuck
      | .ex c _ => .ex c ρ'
      | .stuck => .stuck
    | none => .stuck
  | .ex c ρ' => .ex c ρ'
  | .stuck => .stuck
theorem sm_newX {i : Nat} {pos' : Pos} (hN : X.N.Nodup) (hi : X.N[i]? = some y) (hx : Loc X.env.scope y) (tk : Takes X W) (G : FnT X.prog X.w X.K X.mg X.base n x .new fm) (hr : Room n X.A) (hg : Gl X x) (ha : PXs X B W (e :: es) ms) (hdb : (x == ("__debug__" : Str)) = false := by decide) (he : starEach (e :: es) X.env = (false, eval e X.env) :: starEach es X.env := by rfl)
    (hpl : (backTo cp (starEach es X.env)).any (·.1) = false := by rfl) (hs : swapsWith (.Call (.Name x p) (e :: es) [] cp) (some (.Name y pos')) pos.line X.env = pure false := by rfl)
    (hf : X.fn y = true ∨ X.env.scope.names.lookup y = some .local := by first | exact .inl rfl | exact .inr rfl | assumption) : PSm X B W rk (.Assign [.Name y pos'] (.Call (.Name x p) (e :: es) [] cp) pos) (sNewX i fm ms) := by
  obtain ⟨f, fd, ps, F, hm, hk, hb⟩ := G.ex
  refine (ps_set hN hi hx (pe_callS F hr hg hm hk hb (fun σ => passAt tk σ) ha hdb he hpl) hs hf).weak fun D σ H ⟨ρ, φ, E, q⟩ => ?_
  refine ⟨ρ, φ, E, ?_⟩
  unfold sNewX at q
  cases e1 : ms ρ with
  | stuck => rw [e1] at q; exact q.elim
  | ex c ρ' => rw [e1] at q; exact q σ
  | vals as ρ' =>
    rw [e1] at q
    intro vs H1 φ1 E1 v1 r1
    simp only at q
    split at q
    · rename_i ds hds
      have eas := dsOf_some hds
      subst eas
      refine ⟨ds.map .d, _, r1.argsOk E1 (slsOf_d ρ' ds) (okA_ds ds), ?_⟩
      have same : ∀ {H2 : Hp} {obs : List Ob} {φ2 : Nat → Addr → Prop}, OutOk X.K H1 vs (ds.map .d) (phiOf (ds.map XA.d) φ1) H2 obs φ2 → Same H1 H2 := fun O b o q => O.ev.st b o (fun ⟨j, i, z, _⟩ => by
        rw [List.getElem?_map] at z
        cases hx : ds[j]? with
        | none => rw [hx] at z; cases z
        | some d => rw [hx] at z; cases z) q
      cases ef : fm (ds.map .d) with
      | stuck => rw [ef] at q; exact q.elim
      | ex c obs =>
        rw [ef] at q
        intro H2 φ2 O
        exact q σ H2 φ1 (E1.same (same O)) (v1.trans (Ev.same (same O)))
      | ret d obs =>
        rw [ef] at q
        intro v H2 φ2 O r
        have s := same O
        cases d with
        | list xs0 =>
          simp only at q
          split at q
          · exact q.elim
          · rename_i hc
            have h1 : isO ρ'[i]? = false := Bool.eq_false_iff.mpr fun z => hc (.inl z)
            have h3 : i < ρ'.length := Nat.lt_of_not_le fun z => hc (.inr z)
            rcases r with ⟨_, z⟩ | ⟨_, _, _, _, _, _, _, z, _⟩ | ⟨a, xs, es, rfl, e2, nn, ea, rr, _⟩
            · cases z
            · cases z
            · cases e2
              exact q _ _ _ (E1.setNew (isO_no h1) h3 s nn ea rr) (v1.trans ⟨fun b o _ h => s b o h, fun l b z => z.elim (fun z => .inr (by rw [z.2]; exact nn)) fun z => .inl ⟨l, z⟩⟩)
        | _ => exact q.elim
    · exact q.elim
/-- a test of two values, of what may turn things -/
theorem pxt_cmp {op : CmpOp} {r : R2} {f : PyData → PyData → Option PyData} (ho : OpR X (compareOp op) r) (hr : R2m X.K .per r f) (ha : PXm X B W a mx) (hb : PXm X B W b nx) (hm : behindInMarks op b = false) : PXTm X B W (.Compare a [op] [b] pos) (xTest (xBin f mx nx)) := (pt_cmpR ho ha hb hm).weak fun σ H Q ⟨ρ, φ, E, q⟩ => by
  have q : PostX X.K B W σ (fun v H1 => ∃ c, v = .bl c ∧ Q c H1) H φ (xBin f mx nx ρ) := by
    unfold xTest at q
    cases e : xBin f mx nx ρ with
    | stuck => rw [e] at q; exact q.elim
    | ex c ρ1 => rw [e] at q; exact q
    | val d ρ1 =>
      rw [e] at q
      cases d with
      | bool c => exact fun v H1 φ1 E1 w1 r1 => by cases r1; exact ⟨c, rfl, q H1 φ1 E1 w1⟩
      | _ => exact q.elim
  refine tX_val (f := fun x ρ1 => match nx ρ1 with
    | .val y ρ2 => xOut (f x y) ρ2
    | o => o) E q fun v x ρ1 H1 φ1 E1 w1 r1 q => tX_val (f := fun y ρ2 => xOut (f x y) ρ2) E1 (q.mono w1) fun u y ρ2 H2 φ2 E2 w2 r2 q => ?_
  obtain ⟨d, h, q⟩ := q.out
  exact hr v u H2 _ x y d (.per (r1.mono (w2.firm E1))) (.per r2) h fun v' H' s r => q v' H' φ2 (E2.same s) (w2.trans (Ev.same s)) r
end
end PL

/- PL, the part for a list laid out into names -/
namespace PL
open PySem PySem.Spec PyProof.Rows L2
def setL : List Nat → List PyData → Rho → Rho
  | i :: is, d :: ds, ρ => setL is ds (ρ.set i (.d d))
  | _, _, ρ => ρ
/-- a, b, .. = a list -/
def sUnpL (is : List Nat) (m : ME) : MS := fun ρ => match m ρ with
  | some (.list ds) => if (is.any fun i => isO ρ[i]?) = true ∨ ds.length ≠ is.length then .stuck else .nx (setL is ds ρ)
  | _ => .stuck
def gNames : List Nat → TGs
  | [] => gNil
  | i :: is => gCons (gName i) (gNames is)
theorem run_names {K : PySem.W.Frag} {B : Bd} {H : Hp} {φ : Nat → Addr → Prop} : ∀ (is : List Nat) (xs : List V) (ds : List PyData) (σ : L2.St) (ρ : Rho) (Q : L2.St → Hp → Prop), EnvOk K B H σ ρ φ → Rps K H xs ds → ds.length = is.length → (∀ i ∈ is, isO ρ[i]? = false) →
    (∀ σ', EnvOk K B H σ' (setL is ds ρ) φ → Q σ' H) → gNames is xs σ H Q
  | [], xs, ds, σ, ρ, Q, E, r, hl, _, q => by
    cases r with
    | nil => exact ⟨rfl, q σ E⟩
    | cons _ _ => cases hl
  | i :: is, xs, ds, σ, ρ, Q, E, r, hl, ho, q => by
    cases r with
    | nil => cases hl
    | cons r rs =>
      refine ⟨_, _, rfl, ?_⟩
      refine run_names is _ _ _ _ Q (E.setD (isO_no (ho i (.head _))) r) rs (by simpa using hl) (fun j hj => ?_) q
      rw [List.getElem?_set]
      split
      · split
        · rfl
        · rfl
      · exact ho j (.tail _ hj)
section
variable {X : Cx} {B : Bd} {W : WX} {rk : Kd} {e : Expr} {m : ME} {pos : Pos}
theorem sm_unpL {is : List Nat} {elts : List Expr} {kk : Nat} {tpos : Pos} (he : PEm X B.xo .per e m) (ht : PG X (.Tuple elts kk tpos) (gLst X.K is.length (gNames is)))
    (hs : swapsWithSole [.Tuple elts kk tpos] e pos.line X.env = pure false := by rfl) (hw : swappedStores [.Tuple elts kk tpos] e X.env = pure none := by rfl)
    (h1 : (assignEach [.Tuple elts kk tpos] X.env).map (·.2) = [assign (.Tuple elts kk tpos) X.env] := by rfl) :
    PSm X B W rk (.Assign [.Tuple elts kk tpos] e pos) (sUnpL is m) := (ps_asg he ht hs hw h1).weak fun D σ H ⟨ρ, φ, E, q⟩ => by
  unfold sUnpL at q
  split at q
  · rename_i ds hm
    split at q
    · exact q.elim
    · rename_i hc
      have ho : ∀ i ∈ is, isO ρ[i]? = false := fun i hi => Bool.eq_false_iff.mpr fun z => hc (.inl (List.any_eq_true.mpr ⟨i, hi, z⟩))
      have hl : ds.length = is.length := Decidable.byContradiction fun z => hc (.inr z)
      refine ⟨ρ, _, E.rd, hm, fun v H' s r => ?_⟩
      obtain ⟨a, xs, rfl, hq, rs⟩ := (RpA.per r).list
      refine ⟨a, xs, rfl, hq, by rw [rs.length]; exact hl, run_names is xs ds σ ρ _ (E.same s) rs hl ho fun σ' E' => q σ' H' φ E' (Ev.same s)⟩
  · exact q.elim
end
section
variable {X : Cx} {xo : XO} {x z : Str} {pos : Pos}
/-- a module's text -/
theorem pm_gstr (h : ∃ t, X.mg x = some (.str z t)) (hg : Gl X x) (hd : (x == ("__debug__" : Str)) = false := by decide) : PEm X xo .per (.Name x pos) (mC (.str z)) := by
  obtain ⟨t, e⟩ := h
  exact (pe_glob (v := .str z) hg e ⟨_, rfl⟩ hd).weak fun _ _ _ h => tE_c (fun _ => .str z) h
/-- a.count(b), of texts -/
def countM : PyData → PyData → Option PyData
  | .str x, .str y => some (.int (Txt.count x y))
  | _, _ => none
theorem pm_count {a b : Expr} {apos : Pos} {k1 k2 : Kd} {ma mb : ME} (h : PE X (.Call (.Attribute a "count" apos) [b] [] pos) (tBM X.K "str" (fun x xs H Q => ∃ a b, x = .str a ∧ xs = [.str b] ∧ Q (.int (Txt.count a b)) H) (tE X.K xo k1 ma) (tCons (tE X.K xo k2 mb) tNil))) :
    PEm X xo .per (.Call (.Attribute a "count" apos) [b] [] pos) (mBin countM ma mb) := h.weak fun σ H Q ⟨ρ, d, R, q, z⟩ => by
  obtain ⟨u, q1, q⟩ := Option.bind_eq_some_iff.mp q
  obtain ⟨w, q2, q⟩ := Option.bind_eq_some_iff.mp q
  refine ⟨ρ, u, R, q1, fun v H1 s1 r1 => ?_⟩
  cases u with
  | str x =>
    have e1 := r1.toAny.str
    subst e1
    refine ⟨rfl, ρ, w, R.mono s1, q2, fun v2 H2 s2 r2 => ?_⟩
    cases w with
    | str y =>
      have e2 := r2.toAny.str
      subst e2
      cases q
      exact ⟨x, y, rfl, rfl, z _ _ (s1.trans s2) (.int _)⟩
    | _ => cases q
  | _ => cases q
end
end PL

/- PL, the part for calls within an except suite -/
namespace PL
open PySem PySem.Spec PyProof.Rows L2
/-- how such a call ends: a value comes -/
def CRh (outer : List Env) (P : Program) (w : World) (H : Hp) (s : Shared) (Q : VK) : Result → Shared → Prop
  | .ok (.ret u), s' => CE outer P w H s Q u s'
  | _, _ => False
/-- what such a def is handed; p is the error that is handled, and slot i may hold it -/
def HotArgs (K : PySem.W.Frag) (i : Nat) (p : Addr × Obj) (H : Hp) (vs : List V) (args : List Sl) : Prop := EnvOk K ((bdOf H vs args fun _ _ => False).cau i p) H (vs.map some) args fun _ _ => False
def spH (K : PySem.W.Frag) (i : Nat) (p : Addr × Obj) (fm : FM) (vs : List V) (H : Hp) (Q : VK) : Prop := ∃ args, HotArgs K i p H vs args ∧ match fm args with
  | .ret d _ => ∀ v H', Same H H' → Rp K H' v d → Q v H'
  | _ => False
structure HotOk (P : Program) (w : World) (K : PySem.W.Frag) (mg : Str → Option Value) (base : Heap) (n i : Nat) (f : Addr) (fd : FuncData) (ps : List Str) (fm : FM) : Prop where
  len : ∀ p vs H Q, spH K i p fm vs H Q → vs.length = ps.length
  run : ∀ (A : Around) (outer : List Env) (s : Shared) (H : Hp) (ar : Args) (us : List Value) (vs : List V) (Q : VK) (p : Addr × Obj), L2H.RoomH n A → A.handled = some (.ref p.1) → L2H.PinOk outer H s p → Env0 P w K mg base A outer s H →
    BindsTo s fd ar (ps.zip us) → Vals vs us → spH K i p fm vs H Q → codeAny (model P w) A (.call (.ref f) ar) (CRh outer P w H s Q) s
theorem HotOk.mono {P : Program} {w : World} {K : PySem.W.Frag} {mg : Str → Option Value} {base : Heap} {n j i : Nat} {f : Addr} {fd : FuncData} {ps : List Str} {fm : FM} (h : HotOk P w K mg base j i f fd ps fm) (hj : j ≤ n) : HotOk P w K mg base n i f fd ps fm :=
  ⟨h.len, fun A outer s H ar us vs Q p hr => h.run A outer s H ar us vs Q p (hr.mono hj)⟩
section
variable {K : PySem.W.Frag} {B : Bd} {H : Hp} {vs : List V} {args : List Sl} {φ : Nat → Addr → Prop} {N : List Str} {np i : Nat} {p : Addr × Obj}
theorem startE (A : EnvOk K B H (vs.map some) args φ) (hl : args.length = np) (hn : np ≤ N.length) : EnvOk K B H (L2.start N vs) (args ++ List.replicate (N.length - np) .nil) φ := by
  have el : vs.length = args.length := by have := A.len; rwa [List.length_map] at this
  have eσ : ∀ {i : Nat} {s : Sl}, args[i]? = some s → (L2.start N vs)[i]? = (vs.map some)[i]? := fun {i s} h => by
    have hi := (List.getElem?_eq_some_iff.mp h).1
    unfold L2.start
    exact List.getElem?_append_left (by rw [List.length_map]; omega)
  refine ⟨by simp [L2.start]; omega, fun i s q => ?_, fun i q b hb => ?_, A.dis, A.frm, A.frz, A.sub, fun i x q => ?_, fun i c q => ?_⟩
  · rcases args_get q with h | ⟨h, rfl⟩
    · rw [eσ h]; exact A.sl i s h
    · exact .nil (A.out i h)
  · refine A.out i ?_ b hb
    rw [List.getElem?_eq_none_iff] at q ⊢
    simp at q
    omega
  · obtain ⟨q1, ob, q2⟩ := A.io i x q
    exact ⟨by rw [eσ q2]; exact q1, ob, by rw [List.getElem?_append_left (List.getElem?_eq_some_iff.mp q2).1]; exact q2⟩
  · rcases args_get q with h | ⟨_, h⟩
    · rw [eσ h]; exact A.xo i c h
    · cases h
theorem spH_len {n np : Nat} {m : MS} {Q : VK} (h : spH K i p (runF n np m) vs H Q) : vs.length = np := by
  obtain ⟨args, A, q⟩ := h
  have e : vs.length = args.length := by have := A.len; rwa [List.length_map] at this
  by_cases hl : args.length = np
  · rw [e]; exact hl
  · unfold runF at q
    rw [if_neg hl] at q
    exact q.elim
/-- no error is among them -/
theorem ArgsOk.hot (A : ArgsOk K H vs args fun _ _ => False) (n : ∀ (j : Nat) (c : Str), args[j]? ≠ some (.x c)) : HotArgs K i p H vs args :=
  ⟨A.len, A.sl, A.out, A.dis, A.frm, A.frz, A.sub, A.io, fun j c q => absurd q (n j c)⟩
/-- the error itself -/
theorem hotX {a : Addr} {oe : Obj} {c : Str} (hz : Zc (.ref (He.ga K c)) none oe) (hf : ∃ vs, oe.data = .fields vs) : HotArgs K 0 (a, oe) H [.ref a] [.x c] := by
  refine ⟨rfl, fun j s q => ?_, fun _ _ _ z => z, fun _ _ _ z => z.elim, fun b o _ q => q, fun b ⟨_, z⟩ => z.elim, fun _ _ z => z.elim, fun j x q => ?_, fun j d q => ?_⟩
  · cases j with
    | zero => cases q; exact .x fun _ z => z
    | succ j => simp at q
  · have q : ioOf [.ref a] [.x c] j = some x := q
    unfold ioOf at q
    cases j with
    | zero => cases q
    | succ j => simp at q
  · cases j with
    | zero =>
      cases q
      refine ⟨a, oe, ?_, rfl, hz, hf⟩
      show (if (0 : Nat) = 0 then some (a, oe) else (none : Option (Addr × Obj))) = some (a, oe)
      rfl
    | succ j => simp at q
end
section
variable {P : Program} {w : World} {K : PySem.W.Frag} {mg : Str → Option Value} {base : Heap} {x qual : Str} {params : Arguments} {body : List Stmt} {scope : Scope} {dvs : List V} {kws : List (Str × V)} {f : Addr} {fd : FuncData}
theorem mark_same {A : Around} {v : Value} (h : A.handled = some v) : A.mark (some v) = A := by
  obtain ⟨⟩ := A
  cases h
  rfl
/-- a def called so, by its body's mirror -/
theorem hot_ok {N ps : List Str} {k i : Nat} {m : MS} (F : FunD K x qual params body scope dvs kws f fd) (S : FnScope N ps scope) (hn : ps.length ≤ N.length)
    (hb : ∀ (cdv : Value) (A : Around) (outer : List Env) (s : Shared) (H : Hp) (p : Addr × Obj) (B : Bd), L2H.RoomH k ((A.deeper (envOfC qual scope s.heap.objs.size f cdv)).mark (some (.ref p.1))) →
      PSsm ((cxOf (L2.CX P w) P w K mg base N qual scope f cdv A outer s H fun _ _ _ => False).suite p.1 ((p.1, p.2) :: [])) (B.cau i (p.1, p.2)) W0 .per body m) :
    HotOk P w K mg base (k + 1) i f fd ps (runF N.length ps.length m) := by
  obtain ⟨oc, od, dV, kV, doc, pm, an, cdv, ct, osl, efd, lk, hcd, _, _⟩ := F.ex
  refine ⟨fun p vs H Q h => spH_len h, fun A outer s H ar us vs Q p hr hot hpin e0 hbt r hsp => ?_⟩
  have hl := spH_len hsp
  have bk : ∀ b o, base.get? b = some o → s.heap.get? b = some o := fun b o e => (e0.bs b o e).1
  subst efd
  refine codeAny_call_function hr.depth (e0.mod.kin.keeps bk _ _ lk) rfl S.co S.gen rfl (PySem.W.codeRec_of (e0.mod.kin.keeps bk) hcd) (hbt _ _ _ _ (wpAny_newFunctionEnv_cells S.kind (fun ⟨n, v⟩ hy => ?_) fun env he s1 x => ?_))
  · rcases S.par n (List.of_mem_zip hy).1 with q | q
    · exact .inl q
    · exact .inr ⟨q, PySem.W.cellsFrom_some _ _ _ (.inl q)⟩
  subst he
  refine ⟨(e0.mod.nolimit.keeps bk).keeps x.toInCall.keep, codeAny_func ?_⟩
  have I0 := L2H.inv_startH (CX := L2.CX P w) (E := fun _ _ _ => False) S hpin e0 hl r x
  have ok := I0.ok
  have I : Inv ((cxOf (L2.CX P w) P w K mg base N qual scope f cdv A outer s H fun _ _ _ => False).suite p.1 ((p.1, p.2) :: [])) [] (L2.start N vs) H s1 :=
    ⟨⟨ok.mod, ok.kind, ok.glob, ok.blt, ok.above, ok.inj, ok.has, ok.cab, (fun z => absurd (show false = true from z) Bool.false_ne_true), ok.frames, ok.stk, ok.exf, ok.bs, ok.bsz, ok.noex, ok.exfs, ok.funs, ok.frf⟩,
      I0.os, I0.bare, I0.base, I0.loc, I0.cell, I0.free, I0.freeC, I0.pin, I0.hok, I0.len⟩
  obtain ⟨args, Ar, q⟩ := hsp
  have el : vs.length = args.length := by have := Ar.len; rwa [List.length_map] at this
  have hla : args.length = ps.length := by rw [← el]; exact hl
  have E := startE (N := N) Ar hla hn
  have same : ∀ {σ' : L2.St} {H' : Hp} {ρ' : Rho} {φ' : Nat → Addr → Prop}, EnvOk K ((bdOf H vs args fun _ _ => False).cau i p) H' σ' ρ' φ' → Same H H' := fun E' b o q => E'.frm b o (fun ⟨_, z⟩ => z) q
  have z := (hb cdv A outer s H p (bdOf H vs args fun _ _ => False) (by have h := hr.deeper (envOfC qual scope s.heap.objs.size f cdv); exact ⟨h.dp, h.un⟩)).run [] s1 (L2.start N vs) H { nx := fun _ H' => Q .non H', rt := Q } I ⟨_, _, E, by
    unfold runF at q
    rw [if_pos hla] at q
    cases e : m (args ++ List.replicate (N.length - ps.length) .nil) with
    | nx ρ => rw [e] at q; exact fun σ H' φ' E' _ => q .non H' (same E') .non
    | rt d ρ => rw [e] at q; exact fun v σ H' φ' E' rr => q v H' (same E') rr
    | ex c ρ => rw [e] at q; exact q.elim
    | bk ρ => rw [e] at q; exact q.elim
    | ct ρ => rw [e] at q; exact q.elim
    | stuck => rw [e] at q; exact q.elim⟩
  have eA : (A.deeper (envOfC qual scope s.heap.objs.size f cdv)).mark (some (.ref p.1)) = A.deeper (envOfC qual scope s.heap.objs.size f cdv) := mark_same hot
  have z2 := (congrArg (fun A' => wpAny (model P w) A' (execs body (envOfC qual scope s.heap.objs.size f cdv)) (SP ((cxOf (L2.CX P w) P w K mg base N qual scope f cdv A outer s H fun _ _ _ => False).suite p.1 ((p.1, p.2) :: [])) [] { nx := fun _ H' => Q .non H', rt := Q }) (fun _ _ => False) s1) eA).mp z
  refine wpAny_mono z2 (fun fl s' hs => ?_) fun e s' hs => hs.elim
  cases fl with
  | ret u => obtain ⟨v, σ', H', J, rv, q⟩ := hs; exact ⟨v, H', J.os, J.bare, J.base, J.hok, rv, q⟩
  | next => obtain ⟨σ', H', J, q⟩ := hs; exact ⟨.non, H', J.os, J.bare, J.base, J.hok, rfl, q⟩
  | brk => obtain ⟨_, _, _, q⟩ := hs; exact q.elim
  | cont => obtain ⟨_, _, _, q⟩ := hs; exact q.elim
end
/-- a def by its name, a method of a class -/
structure HotT (P : Program) (w : World) (K : PySem.W.Frag) (mg : Str → Option Value) (base : Heap) (n i : Nat) (x : Str) (fm : FM) : Prop where
  ex : ∃ (f : Addr) (fd : FuncData) (ps : List Str), HotOk P w K mg base n i f fd ps fm ∧ mg x = some (.ref f) ∧ PySem.W.keepIn K (.ref f) = true ∧ Binds K fd ps []
structure MtH (P : Program) (w : World) (K : PySem.W.Frag) (mg : Str → Option Value) (base : Heap) (n i : Nat) (C m : Str) (fm : FM) : Prop where
  ex : ∃ (f : Addr) (fd : FuncData) (ps : List Str), HotOk P w K mg base n i f fd ps fm ∧ Meth K (He.ga K C) m f ∧ Binds K fd ps []
  cls : Cls K (He.ga K C)
section
variable {X : Cx} {xo : XO} {B : Bd} {a : Addr} {oe : Obj} {pn : List (Addr × Obj)} {e : Expr} {es : List Expr} {m : ME} {ms : MA} {ks : List Bool} {pos p p1 apos : Pos} {x y C nm : Str} {n i j : Nat} {fm : FM}
theorem huH {k : Nat} {A : Around} (hr : L2H.RoomH k A) : A.units + 200 < cLine := by have := hr.un; omega
theorem roomS {k j : Nat} (hr : Room k X.A) (hj : j ≤ k) : L2H.RoomH j (X.suite a pn).A := ⟨by have := hr.dp; show X.A.depth + 3 * j + 5 < _; omega, by have := hr.un; show X.A.units + 16 * j + 200 < _; omega⟩
theorem run_hot {pins : List (Addr × Obj)} {σ : L2.St} {H : Hp} {s : Shared} {Q : VK} {us : List Value} {vs : List V} {f : Addr} {fd : FuncData} {ps : List Str} (F : HotOk X.prog X.w X.K X.mg X.base n i f fd ps fm) (hr : L2H.RoomH n (X.suite a ((a, oe) :: pn)).A) (hb : Binds X.K fd ps [])
    (I : Inv (X.suite a ((a, oe) :: pn)) pins σ H s) (r : Vals vs us) (h : spH X.K i (a, oe) fm vs H Q) : wpAny (model X.prog X.w) (X.suite a ((a, oe) :: pn)).A (call (.ref f) us) (EP (X.suite a ((a, oe) :: pn)) pins σ Q) (X.suite a ((a, oe) :: pn)).xe s := by
  have hl : us.length = ps.length := by rw [← r.length]; exact F.len _ _ _ _ h
  have b := hb s us I.kIn (by rw [List.append_nil]; exact hl)
  rw [List.append_nil] at b
  obtain ⟨g1, g2, g3, g4, g5⟩ := I.pin (a, oe) (List.mem_append_left _ List.mem_cons_self)
  refine wpAny_call (codeAny_mono (F.run _ _ s H ⟨us, []⟩ us vs Q (a, oe) hr rfl ⟨g1, g2, fun hm => (List.mem_cons.mp (I.stkSub a hm)).elim g3 g4, g5⟩ I.env0 b r h) fun r s' hq => ?_)
  cases r with
  | error e => exact hq.elim
  | ok fl =>
    cases fl with
    | ret u => exact I.after hq
    | next => exact hq.elim
    | brk => exact hq.elim
    | cont => exact hq.elim
def tHot (K : PySem.W.Frag) (i : Nat) (p : Addr × Obj) (fm : FM) (t : TA) : TE := fun σ H Q => t σ H fun vs H1 => spH K i p fm vs H1 Q
theorem pe_hot {t : TA} (G : HotT X.prog X.w X.K X.mg X.base n i x fm) (hr : L2H.RoomH n (X.suite a ((a, oe) :: pn)).A) (hg : Gl X x) (ha : PA (X.suite a ((a, oe) :: pn)) (e :: es) t) (hdb : (x == ("__debug__" : Str)) = false := by decide)
    (he : starEach (e :: es) X.env = (false, eval e X.env) :: starEach es X.env := by rfl) (hpl : (backTo pos (starEach es X.env)).any (·.1) = false := by rfl) :
    PE (X.suite a ((a, oe) :: pn)) (.Call (.Name x p) (e :: es) [] pos) (tHot X.K i (a, oe) fm t) := by
  obtain ⟨f, fd, ps, F, hm, hk, hb⟩ := G.ex
  refine ⟨fun pins s σ H Q I h => wpAny_Call_Name_kw (ld_glob (X := X.suite a ((a, oe) :: pn)) I hg hm ?_ hdb)⟩
  exact PySem.W.callWith_K (h₀ := X.base) I.ok.mod.kin hk (thn (ha.run pos pins s σ H _ I h) fun us s1 ⟨vs, H1, I1, r, q⟩ => ⟨I1.kIn, run_hot F hr hb I1 r q⟩) he hpl
/-- f(e), e what is caught -/
def mHotE (j : Nat) (fm : FM) : ME := fun ρ => match ρ[j]? with
  | some (.x c) => (match fm [.x c] with
    | .ret d _ => some d
    | _ => none)
  | _ => none
theorem pm_hotE (G : HotT X.prog X.w X.K X.mg X.base n 0 x fm) (hr : L2H.RoomH n (X.suite a ((a, oe) :: pn)).A) (hg : Gl X x) (hN : X.N[j]? = some nm := by rfl) (hdb : (x == ("__debug__" : Str)) = false := by decide)
    (hv : Vis X.env.scope nm := by first | exact Or.inl rfl | exact Or.inr (Or.inl rfl) | exact Or.inr (Or.inr rfl)) (hd : (nm == ("__debug__" : Str)) = false := by decide) (hcd : (nm == ("__classdict__" : Str)) = false := by decide)
    (he : starEach [.Name nm p1] X.env = [(false, eval (.Name nm p1) X.env)] := by rfl) :
    PEm (X.suite a ((a, oe) :: pn)) (B.cau j (a, oe)).xo .per (.Call (.Name x p) [.Name nm p1] [] pos) (mHotE j fm) :=
  (pe_hot G hr hg (pa_cons (pe_var (X := X.suite a ((a, oe) :: pn)) (i := j) hN hv hd hcd) pa_nil he) hdb he (by rfl)).weak fun σ H Q ⟨ρ, d, R, q, z⟩ => by
    unfold mHotE at q
    split at q
    · rename_i c e1
      obtain ⟨a', oe', z1, z2, z3, z4⟩ := R.xo j c e1
      have z1 : (if j = j then some (a, oe) else B.xo j) = some (a', oe') := z1
      rw [if_pos rfl] at z1
      cases z1
      split at q
      · rename_i d' obs ef
        cases q
        refine ⟨_, z2, [.x c], hotX z3 z4, ?_⟩
        try rw [ef]
        exact fun v H' s r => z v H' s r
      · cases q
    · cases q
/-- f(values) -/
theorem pm_hot (G : HotT X.prog X.w X.K X.mg X.base n i x fm) (hr : L2H.RoomH n (X.suite a ((a, oe) :: pn)).A) (hg : Gl X x) (ha : PAm (X.suite a ((a, oe) :: pn)) xo ks (e :: es) ms) (hdb : (x == ("__debug__" : Str)) = false := by decide)
    (he : starEach (e :: es) X.env = (false, eval e X.env) :: starEach es X.env := by rfl) (hpl : (backTo pos (starEach es X.env)).any (·.1) = false := by rfl) :
    PEm (X.suite a ((a, oe) :: pn)) xo .per (.Call (.Name x p) (e :: es) [] pos) (mCall ks fm ms) :=
  (pe_hot G hr hg ha hdb he hpl).weak fun σ H Q ⟨ρ, d, R, q, z⟩ => by
    obtain ⟨ds, q1, q⟩ := Option.bind_eq_some_iff.mp q
    refine ⟨ρ, ds, R, q1, fun vs H1 s1 r1 => ⟨mkArgs ks ds, r1.argsOk.hot fun j c => mkArgs_nox, ?_⟩⟩
    split at q
    · rename_i d' obs ef
      cases q
      try rw [ef]
      exact fun v H' s r => z v H' (s1.trans s) r
    · cases q
/-- o.m() -/
theorem pm_hotM0 {pl : Sem Bool} (G : MtH X.prog X.w X.K X.mg X.base n i C nm fm) (hr : L2H.RoomH n (X.suite a ((a, oe) :: pn)).A) (hN : X.N[j]? = some y)
    (hev : MetEv X (.Name y p) nm [] apos pos pl := by rfl)
    (hv : Vis X.env.scope y := by first | exact Or.inl rfl | exact Or.inr (Or.inl rfl) | exact Or.inr (Or.inr rfl)) (hd : (y == ("__debug__" : Str)) = false := by decide) (hcd : (y == ("__classdict__" : Str)) = false := by decide) :
    PEm (X.suite a ((a, oe) :: pn)) xo .per (.Call (.Attribute (.Name y p) nm apos) [] [] pos) (mMeth C nm j fm mNil) := by
  obtain ⟨⟨f, fd, ps, F, hm, hb⟩, c⟩ := G
  refine ⟨fun pins s σ H Q I ⟨ρ, d, R, q, z⟩ => ?_⟩
  refine PySem.W.methodCall_KW (pl := pl) (thn ((pe_var (X := X.suite a ((a, oe) :: pn)) (i := j) hN hv hd hcd).run pins s σ H (fun u H1 => H1 = H ∧ σ[j]? = some (some u)) I ?_) fun ov s1 ⟨u, H1, I1, ru, eH, eu⟩ => ?_) hev
  · unfold mMeth at q
    cases e1 : insOf ρ[j]? with
    | none => rw [e1] at q; cases q
    | some t =>
      obtain ⟨C', fs⟩ := t
      obtain ⟨x, dx, vs, fp, h1, h2, h3⟩ := R.ins e1
      exact ⟨_, h1, rfl, h1⟩
  · subst eH
    unfold mMeth at q
    cases e1 : insOf ρ[j]? with
    | none => rw [e1] at q; cases q
    | some t =>
      obtain ⟨C', fs⟩ := t
      rw [e1] at q
      simp only at q
      by_cases hc : C' = C ∧ fs.lookup nm = none
      · rw [if_pos hc] at q
        obtain ⟨rfl, hl⟩ := hc
        obtain ⟨ds, q1, q⟩ := Option.bind_eq_some_iff.mp q
        cases q1
        obtain ⟨x, dx, vs, fp, h1, h2, h3⟩ := R.ins e1
        rw [h1] at eu
        cases eu
        obtain ⟨x', fp', g1, g2⟩ := insR_rep R e1
        rw [h1] at g1
        cases g1
        have hov : ov = Value.ref x := ru
        subst hov
        refine getmeth_ok I1 h2 c hm (h3.lookN hl) (PySem.W.callWith_K0 (first := [.ref x]) I1.kIn hm.kp (run_hot F hr hb I1 (us := [.ref x]) (vs := [.ref x]) (.cons rfl .nil) ⟨[.r (.ins C' fs)], (argsR g2 .nil).hot fun k c' z => ?_, ?_⟩))
        · cases k with
          | zero => cases z
          | succ k => simp at z
        · split at q
          · rename_i d' obs ef
            cases q
            have ef : fm [.r (.ins C' fs)] = .ret d obs := ef
            try rw [ef]
            exact fun v H' s r => z v H' s r
          · cases q
      · rw [if_neg hc] at q; cases q
end
end PL

/- PL, the part for dicts whose keys are tuples of what may nest -/
namespace PL
open PySem PySem.Spec PyProof.Rows L2
/-! ### keys -/
section
variable {X : Cx} {pins : List (Addr × Obj)} {σ : L2.St} {H : Hp} {s : Shared}
mutual
theorem Rp.nested (I : Inv X pins σ H s) : ∀ {d : PyData} {v : V} {u : Value} {k : NestedKey}, Rp X.K H v d → RelV v u → keyOf d = some k → NestedIs s.heap k u
  | .none, _, _, _, r, ru, e => by cases r; cases e; cases ru; exact .none
  | .int i, _, _, _, r, ru, e => by cases r; cases e; obtain ⟨t, rfl⟩ := ru; exact .int _ _
  | .str x, _, _, _, r, ru, e => by cases r; cases e; obtain ⟨t, rfl⟩ := ru; exact .text _ _
  | .tuple ds, _, _, _, r, ru, e => by
    cases r with
    | @tup a xs _ hq rr =>
      obtain ⟨ks, e1, rfl⟩ := Option.map_eq_some_iff.mp (show (keysOf ds).map NestedKey.tup = some _ from e)
      cases ru
      obtain ⟨its, rv, ⟨o, h1, h2, n, h3⟩, _⟩ := I.tuple hq
      exact .tup h1 h2 h3 (Rps.nested I rr rv e1)
  | .bool _, _, _, _, _, _, e => by cases e
  | .list _, _, _, _, _, _, e => by cases e
  | .dict _, _, _, _, _, _, e => by cases e
theorem Rps.nested (I : Inv X pins σ H s) : ∀ {ds : List PyData} {vs : List V} {us : List Value} {ks : List NestedKey}, Rps X.K H vs ds → Vals vs us → keysOf ds = some ks → NestedAll s.heap ks us
  | [], _, _, _, r, ru, e => by cases r; cases e; cases ru; exact .nil
  | d :: ds, _, _, _, r, ru, e => by
    cases r with
    | cons r rs =>
      cases ru with
      | cons u us =>
        obtain ⟨k, e1, e⟩ := Option.bind_eq_some_iff.mp (show (keyOf d).bind (fun k => (keysOf ds).map (k :: ·)) = some _ from e)
        obtain ⟨ks, e2, rfl⟩ := Option.map_eq_some_iff.mp e
        exact .cons (Rp.nested I r u e1) (Rps.nested I rs us e2)
end
end
/-! ### looking up, storing -/
def lookK : List (NestedKey × PyData) → NestedKey → Option PyData
  | [], _ => none
  | p :: r, k => if p.1 = k then some p.2 else lookK r k
def storK (kvs : List (NestedKey × PyData)) (k : NestedKey) (d : PyData) : List (NestedKey × PyData) := if (lookK kvs k).isSome then kvs.map (fun p => if p.1 = k then (p.1, d) else p) else kvs ++ [(k, d)]
def storE (es : List (NestedKey × Addr × V)) (b : Bool) (k : NestedKey) (a : Addr) (v : V) : List (NestedKey × Addr × V) := if b = true then es.map (fun p => if p.1 = k then (p.1, p.2.1, v) else p) else es ++ [(k, a, v)]
abbrev EsXs : List (NestedKey × Addr × V) → List (NestedKey × Addr × Value) → Prop := Paired fun (p : NestedKey × Addr × V) (q : NestedKey × Addr × Value) => p.1 = q.1 ∧ p.2.1 = q.2.1 ∧ RelV p.2.2 q.2.2
theorem map_get {K : PySem.W.Frag} {H : Hp} {k : NestedKey} : ∀ {kvs es xs}, MapRep K H kvs es → EsXs es xs → (∃ d a v u, lookK kvs k = some d ∧ atKey xs k = some (a, u) ∧ RelV v u ∧ Rp K H v d) ∨ (lookK kvs k = none ∧ atKey xs k = none)
  | _, _, _, .nil, .nil => .inr ⟨rfl, rfl⟩
  | _, _, _, @MapRep.cons _ _ k' a v d kd kvs es r1 e1 l r2 m, @Paired.cons _ _ _ _ q _ xs ⟨z1, z2, z3⟩ t => by
    obtain ⟨k2, a2, u⟩ := q
    have z1 : k' = k2 := z1
    subst z1
    have z2 : a = a2 := z2
    subst z2
    by_cases e : k' = k
    · refine .inl ⟨d, a, v, u, ?_, ?_, z3, r2⟩
      · show (if k' = k then some d else _) = _
        rw [if_pos e]
      · unfold atKey
        rw [List.find?_cons_of_pos (by simp [e])]
        rfl
    · have h1 : lookK ((k', d) :: kvs) k = lookK kvs k := by show (if k' = k then some d else lookK kvs k) = _; rw [if_neg e]
      have h2 : atKey ((k', a, u) :: xs) k = atKey xs k := by
        unfold atKey
        rw [List.find?_cons_of_neg (by simp [e])]
      rw [h1, h2]
      exact map_get m t
theorem esxs_map {k : NestedKey} {v : V} {u : Value} (r : RelV v u) : ∀ {es xs}, EsXs es xs → EsXs (es.map fun p => if p.1 = k then (p.1, p.2.1, v) else p) (xs.map (putAt k u))
  | _, _, .nil => .nil
  | _, _, @Paired.cons _ _ _ p q _ _ ⟨z1, z2, z3⟩ t => by
    rw [List.map_cons, List.map_cons]
    refine .cons ?_ (esxs_map r t)
    unfold putAt
    rw [z1]
    by_cases e : q.1 = k
    · rw [if_pos e, if_pos e]; exact ⟨rfl, z2, r⟩
    · rw [if_neg e, if_neg e]; exact ⟨z1, z2, z3⟩
theorem esxs_app {k : NestedKey} {a : Addr} {v : V} {u : Value} (r : RelV v u) : ∀ {es xs}, EsXs es xs → EsXs (es ++ [(k, a, v)]) (xs ++ [(k, a, u)])
  | _, _, .nil => .cons ⟨rfl, rfl, r⟩ .nil
  | _, _, .cons z t => .cons z (esxs_app r t)
theorem esxs_len : ∀ {es xs}, EsXs es xs → xs.length = es.length
  | _, _, .nil => rfl
  | _, _, .cons _ t => congrArg Nat.succ (esxs_len t)
theorem MapRep.len {K : PySem.W.Frag} {H : Hp} {kvs es} (h : MapRep K H kvs es) : es.length = kvs.length := by
  induction h with
  | nil => rfl
  | cons _ _ _ _ _ ih => exact congrArg Nat.succ ih
theorem mrep_map {K : PySem.W.Frag} {H : Hp} {k : NestedKey} {v : V} {d : PyData} (r : Rp K H v d) {kvs es} (h : MapRep K H kvs es) : MapRep K H (kvs.map fun p => if p.1 = k then (p.1, d) else p) (es.map fun p => if p.1 = k then (p.1, p.2.1, v) else p) := by
  induction h with
  | nil => exact .nil
  | @cons k' a v' d' kd kvs es r1 e1 l r2 _ ih =>
    rw [List.map_cons, List.map_cons]
    by_cases e : k' = k
    · rw [if_pos e, if_pos e]; exact .cons r1 e1 l r ih
    · rw [if_neg e, if_neg e]; exact .cons r1 e1 l r2 ih
theorem mrep_app {K : PySem.W.Frag} {H : Hp} {k : NestedKey} {a : Addr} {v : V} {d kd : PyData} (r1 : Rp K H (.ref a) kd) (e : keyOf kd = some k) (l : k.depth ≤ 8) (r : Rp K H v d) {kvs es} (h : MapRep K H kvs es) : MapRep K H (kvs ++ [(k, d)]) (es ++ [(k, a, v)]) := by
  induction h with
  | nil => exact .cons r1 e l r .nil
  | cons r1 e1 l r2 _ ih => exact .cons r1 e1 l r2 ih
/-! ### the dict's object -/
theorem mapP_stay {pw : PgW} {x : Addr} {es} : ∀ h1 h2 : Heap, mapP pw x es h1 → (∀ o, h1.get? x = some o → h2.get? x = some o) → mapP pw x es h2 :=
  fun h1 h2 ⟨z1, z2, xs, r, o, en, ep, q, z⟩ k => ⟨z1, z2, xs, r, o, en, ep, k o q, z⟩
theorem mapP_ok {P : Program} {w : World} {H : Hp} {h : Heap} {x : Addr} {pw : PgW} {es} (m : mapP pw x es h) : ObjOk P w H h x (.ext (mapP pw x es)) := by
  obtain ⟨_, _, _, _, o, _, _, q, _⟩ := id m
  exact ⟨m, ⟨o, q⟩, mapP_stay⟩
section
variable {X : Cx} {pins : List (Addr × Obj)} {σ : L2.St} {H : Hp} {s : Shared} {x : Addr} {es : List (NestedKey × Addr × V)} {kvs : List (NestedKey × PyData)}
theorem map_is (I : Inv X pins σ H s) {xs : List (NestedKey × Addr × Value)} (r : MapRep X.K H kvs es) (t : EsXs es xs) : ∀ y ∈ xs, (nestedKind X.prog X.w).is s.heap y.1 y.2.1 := by
  induction r generalizing xs with
  | nil => cases t; exact fun y z => (List.not_mem_nil z).elim
  | @cons k a v d kd kvs es r1 e1 l r2 m ih =>
    cases t with
    | cons z t =>
      intro y hy
      rcases List.mem_cons.mp hy with rfl | hy
      · obtain ⟨z1, z2, _⟩ := z
        have z1 : k = y.1 := z1
        have z2 : a = y.2.1 := z2
        rw [← z1, ← z2]
        exact ⟨Rp.nested I r1 rfl e1, l⟩
      · exact ih t y hy
theorem map_at (I : Inv X pins σ H s) (e : H x = some (.ext (mapP (X.prog, X.w) x es))) (r : MapRep X.K H kvs es) : (x == sysModules) = false ∧ es.length ≤ sizeLine ∧ ∃ xs, EsXs es xs ∧ s.heap.DictOfH (nestedKind X.prog X.w) x xs := by
  obtain ⟨⟨z1, z2, xs, t, o, en, ep, q1, q2, q3, q4, q5⟩, _, _⟩ := I.hok x _ e
  exact ⟨z1, z2, xs, t, o, en, ep, q1, q2, q3, q4, map_is I r t, q5⟩
/-- d.get(k, z) -/
theorem map_getOr {A : Around} {E : Value → Shared → Prop} {Q : Value → Shared → Prop} {k : NestedKey} {kd d0 : PyData} {a : Addr} {v0 : V} {u0 : Value} (hu : A.units + 200 < cLine) (I : Inv X pins σ H s) (e : H x = some (.ext (mapP (X.prog, X.w) x es))) (r : MapRep X.K H kvs es)
    (rk : Rp X.K H (.ref a) kd) (ek : keyOf kd = some k) (hl : k.depth ≤ 8) (r0 : Rp X.K H v0 d0) (ru : RelV v0 u0) (q : ∀ v u s', Inv X pins σ H s' → RelV v u → Rp X.K H v ((lookK kvs k).getD d0) → Q u s') :
    wpAny (model X.prog X.w) A (call (.builtin "dict.get") [.ref x, .ref a, u0]) Q E s := by
  obtain ⟨hx, _, xs, t, dd⟩ := map_at I e r
  refine call_meetsIn PySem.F.slot_dict_get dd.typeIs PySem.F.entry_dict_get (PySem.F.args_dict_get_3 _ _ _) (meetsH_dict_get_default (nestedKind X.prog X.w) x a hx u0) ⟨(by show A.units + 1 + 8 < cLine; omega), k, xs, ⟨Rp.nested I rk rfl ek, hl⟩, dd, ?_⟩
  rcases map_get (k := k) r t with ⟨d, b, v, u, h1, h2, h3, h4⟩ | ⟨h1, h2⟩
  · rw [h2]
    exact q v u _ (I.tok _) h3 (by rw [h1]; exact h4)
  · rw [h2]
    exact q v0 u0 _ (I.tok _) ru (by rw [h1]; exact r0)
/-- d[k] = v -/
def rSetM (X : Cx) : V → V → V → Hp → (Hp → Prop) → Prop := fun o i v H Q => ∃ (x a : Addr) (es : List (NestedKey × Addr × V)) (kvs : List (NestedKey × PyData)) (k : NestedKey) (kd d : PyData), o = .ref x ∧ i = .ref a ∧ H x = some (.ext (mapP (X.prog, X.w) x es)) ∧ MapRep X.K H kvs es ∧
  Rp X.K H (.ref a) kd ∧ keyOf kd = some k ∧ k.depth ≤ 8 ∧ Rp X.K H v d ∧ kvs.length < sizeLine ∧ Q (upd H x (.ext (mapP (X.prog, X.w) x (storE es (lookK kvs k).isSome k a v))))
theorem set_map (hu : X.A.units + 200 < cLine) : PSet X (rSetM X) := by
  intro pins s σ H o i v ov iv u Q I ro ri rv ⟨x, a, es, kvs, k, kd, d, eo, ei, e, r, rk, ek, hl, rd, hz, q⟩
  subst eo ei
  cases ro
  cases ri
  obtain ⟨hx, hlen, xs, t, dd⟩ := map_at I e r
  have el := esxs_len t
  have em := r.len
  refine wpAny_setItem_heap (knd := nestedKind X.prog X.w) (hsz := by rw [el]; exact hlen) (by show X.A.units + 1 + 8 < cLine; omega) (k := k) ⟨Rp.nested I rk rfl ek, hl⟩ dd fun h' dd' hs => ?_
  obtain ⟨ob, en, ep, q1, q2, q3, q4, _, q5⟩ := dd'
  refine ⟨_, d_write I (by rw [e]; exact True.intro) hs ⟨ob, q1⟩ (mapP_ok ⟨hx, ?_, _, ?_, ob, en, ep, q1, q2, q3, q4, q5⟩), q⟩
  · unfold storE
    split
    · rw [List.length_map]; exact hlen
    · rw [List.length_append, List.length_singleton]; omega
  · unfold storE storedH
    rcases map_get (k := k) r t with ⟨d', b, v', u', h1, h2, _, _⟩ | ⟨h1, h2⟩
    · rw [h1, h2]; exact esxs_map rv t
    · rw [h1, h2]; exact esxs_app rv t
theorem MapRep.put {k : NestedKey} {a : Addr} {v : V} {d kd : PyData} (r : MapRep X.K H kvs es) (rk : Rp X.K H (.ref a) kd) (ek : keyOf kd = some k) (hl : k.depth ≤ 8) (rd : Rp X.K H v d) : MapRep X.K H (storK kvs k d) (storE es (lookK kvs k).isSome k a v) := by
  unfold storK storE
  split
  · exact mrep_map rd r
  · exact mrep_app rk ek hl rd r
end
/-! ### rules -/
open Classical in
noncomputable def mapAt (pw : PgW) : Option Sl → Option (List (NestedKey × PyData))
  | some (.o (.map pw' kvs)) => if pw' = pw then some kvs else none
  | some (.r (.map pw' kvs)) => if pw' = pw then some kvs else none
  | _ => none
open Classical in
noncomputable def mapF (pw : PgW) : Option Fl → Option (List (NestedKey × PyData))
  | some (.m pw' kvs) => if pw' = pw then some kvs else none
  | _ => none
theorem mapF_some {pw : PgW} {w : Option Fl} {kvs} (h : mapF pw w = some kvs) : w = some (.m pw kvs) := by
  unfold mapF at h
  split at h
  · split at h
    · rename_i e; cases h; rw [e]
    · cases h
  · cases h
theorem mapAt_some {pw : PgW} {w : Option Sl} {kvs} (h : mapAt pw w = some kvs) : w = some (.o (.map pw kvs)) ∨ w = some (.r (.map pw kvs)) := by
  unfold mapAt at h
  split at h
  · split at h
    · rename_i e; cases h; rw [e]; exact .inl rfl
    · cases h
  · split at h
    · rename_i e; cases h; rw [e]; exact .inr rfl
    · cases h
  · cases h
/-- a key that is a tuple -/
def tupKey (d : PyData) : Option NestedKey := match d with
  | .tuple ds => (keyOf (.tuple ds)).bind fun k => if k.depth ≤ 8 then some k else none
  | _ => none
theorem tupKey_some {d : PyData} {k : NestedKey} (h : tupKey d = some k) : (∃ ds, d = .tuple ds) ∧ keyOf d = some k ∧ k.depth ≤ 8 := by
  unfold tupKey at h
  split at h
  · obtain ⟨k', e, h⟩ := Option.bind_eq_some_iff.mp h
    obtain ⟨hl, rfl⟩ := some_if h
    exact ⟨⟨_, rfl⟩, e, hl⟩
  · cases h
noncomputable def mMGet (pw : PgW) (i : Nat) (mk md : ME) : ME := fun ρ => (mk ρ).bind fun kd => (md ρ).bind fun d0 => (mapAt pw ρ[i]?).bind fun kvs => (tupKey kd).bind fun k => some ((lookK kvs k).getD d0)
noncomputable def mMGetF (pw : PgW) (i : Nat) (C f : Str) (mk md : ME) : ME := fun ρ => (mk ρ).bind fun kd => (md ρ).bind fun d0 => (insOf ρ[i]?).bind fun p => if p.1 = C then (mapF pw (p.2.lookup f)).bind fun kvs => (tupKey kd).bind fun k => some ((lookK kvs k).getD d0) else none
section
variable {X : Cx} {B : Bd} {W : WX} {rk : Kd} {xo : XO} {e a b c : Expr} {es : List Expr} {m ma mb mk md mv : ME} {mx nx : MX} {ms : MXs} {k k1 k2 k3 : Kd} {pos p p2 apos cp dpos : Pos} {x y C f : Str} {n i j : Nat} {fm : FM}
/-- a dict stands there -/
theorem pe_mget {o : Expr} {to ty tz : TE} (ho : PE X o to) (he : PE X e ty) (hf : PE X a tz) (m2 : M2 X o "get" apos e a cp) (hu : X.A.units + 200 < cLine) : PE X (.Call (.Attribute o "get" apos) [e, a] [] cp)
    (fun σ H Q => to σ H fun u H1 => ∃ (x : Addr) (es0 : List (NestedKey × Addr × V)) (kvs0 : List (NestedKey × PyData)), u = .ref x ∧ H1 x = some (.ext (mapP (X.prog, X.w) x es0)) ∧ MapRep X.K H1 kvs0 es0 ∧ ty σ H1 fun v H2 => tz σ H2 fun v0 H3 =>
      ∃ (b : Addr) (es : List (NestedKey × Addr × V)) (kvs : List (NestedKey × PyData)) (k : NestedKey) (kd d0 : PyData), v = .ref b ∧ H3 x = some (.ext (mapP (X.prog, X.w) x es)) ∧ MapRep X.K H3 kvs es ∧ Rp X.K H3 (.ref b) kd ∧ keyOf kd = some k ∧ k.depth ≤ 8 ∧ Rp X.K H3 v0 d0 ∧ ∀ v, Rp X.K H3 v ((lookK kvs k).getD d0) → Q v H3) := ⟨fun pins s σ H Q I h => by
  refine wpAny_Call_method m2.base m2.few m2.line PySem.F.plainAttrs_dict PySem.F.slot_dict_get PySem.F.type_dict_get (thn (ho.run pins s σ H _ I h) fun ov s1 ⟨u, H1, I1, ru, x, es0, kvs0, eu, ex, r0, g⟩ => ?_)
  subst eu
  have hov : ov = Value.ref x := ru
  subst hov
  obtain ⟨_, _, xs, _, dd⟩ := map_at I1 ex r0
  refine ⟨dd.typeIs, fun b z => ?_, ?_⟩
  · cases z
    obtain ⟨ob, _, _, h1, h2, _⟩ := dd
    exact ⟨ob, h1, h2.2.1⟩
  rw [m2.trees]
  refine Calls.callWith_builtin rfl (Calls.evalArgs_plain (Calls.spliced_cons (thn (he.run pins s1 σ H1 _ I1 g) fun kv s2 ⟨v, H2, I2, rv, g⟩ => Calls.spliced_cons (thn (hf.run pins s2 σ H2 _ I2 g) fun zv s3 ⟨v0, H3, I3, rz, g⟩ => Calls.spliced_nil ?_))))
  obtain ⟨b, es, kvs, k, kd, d0, ev, e3, r3, rk, ek, hl, rd, q⟩ := g
  subst ev
  have hkv : kv = Value.ref b := rv
  subst hkv
  exact map_getOr hu I3 e3 r3 rk ek hl rd rz fun v u s4 I4 ru rr => ⟨v, H3, I4, ru, q v rr⟩⟩
theorem rd_map {K : PySem.W.Frag} {H : Hp} {σ : L2.St} {ρ : Rho} {pw : PgW} {kvs : List (NestedKey × PyData)} (R : RdOk K xo H σ ρ) (h : mapAt pw ρ[i]? = some kvs) : ∃ y es, σ[i]? = some (some (.ref y)) ∧ H y = some (.ext (mapP pw y es)) ∧ MapRep K H kvs es := by
  rcases mapAt_some h with e | e
  · have r := R.rd i _ e
    generalize σ[i]? = v at r ⊢
    cases r with | o r => cases r with | map ea rr => exact ⟨_, _, rfl, ea, rr⟩
  · have r := R.rd i _ e
    generalize σ[i]? = v at r ⊢
    cases r with | r r => cases r with | map ea rr => exact ⟨_, _, rfl, ea, rr⟩
theorem pm_mget (hu : X.A.units + 200 < cLine) (he : PEm X xo .per e mk) (hf : PEm X xo .per a md) (m2 : M2 X (.Name y p) "get" apos e a cp) (hN : X.N[i]? = some y) (hv : Vis X.env.scope y := by first | exact Or.inl rfl | exact Or.inr (Or.inl rfl) | exact Or.inr (Or.inr rfl)) (hd : (y == ("__debug__" : Str)) = false := by decide)
    (hcd : (y == ("__classdict__" : Str)) = false := by decide) : PEm X xo .per (.Call (.Attribute (.Name y p) "get" apos) [e, a] [] cp) (mMGet (X.prog, X.w) i mk md) := (pe_mget (pe_var (i := i) hN hv hd hcd) he hf m2 hu).weak fun σ H Q ⟨ρ, d, R, q, z⟩ => by
  obtain ⟨kd, q1, q⟩ := Option.bind_eq_some_iff.mp q
  obtain ⟨d0, q2, q⟩ := Option.bind_eq_some_iff.mp q
  obtain ⟨kvs, q3, q⟩ := Option.bind_eq_some_iff.mp q
  obtain ⟨k, q4, q⟩ := Option.bind_eq_some_iff.mp q
  cases q
  obtain ⟨⟨ds, rfl⟩, ek, hl⟩ := tupKey_some q4
  obtain ⟨y, es, h1, h2, h3⟩ := rd_map R q3
  refine ⟨_, h1, y, es, kvs, rfl, h2, h3, ρ, _, R, q1, fun v H1 s1 r1 => ⟨ρ, _, R.mono s1, q2, fun v0 H2 s2 r2 => ?_⟩⟩
  have s := s1.trans s2
  have r1 : Rp X.K H1 v (.tuple ds) := r1
  cases r1 with
  | @tup b xs _ hq rr =>
    exact ⟨b, es, kvs, k, .tuple ds, d0, rfl, s _ _ h2, h3.mono (firm s), (Rp.tup hq rr).mono (firm s2), ek, hl, r2, fun v rv => z v H2 s rv⟩
theorem pm_mgetF (hu : X.A.units + 200 < cLine) (c : Cls X.K (He.ga X.K C)) (na : NoAttr X.K (He.ga X.K C) f) (he : PEm X xo .per e mk) (hf : PEm X xo .per a md) (m2 : M2 X (.Attribute (.Name y p) f p2) "get" apos e a cp) (hN : X.N[i]? = some y)
    (hv : Vis X.env.scope y := by first | exact Or.inl rfl | exact Or.inr (Or.inl rfl) | exact Or.inr (Or.inr rfl)) (hd : (y == ("__debug__" : Str)) = false := by decide) (hcd : (y == ("__classdict__" : Str)) = false := by decide) (hb : attributeBase (.Name y p) f X.env (eval (.Name y p) X.env) = eval (.Name y p) X.env := by rfl) :
    PEm X xo .per (.Call (.Attribute (.Attribute (.Name y p) f p2) "get" apos) [e, a] [] cp) (mMGetF (X.prog, X.w) i C f mk md) := (pe_mget (pe_fld (pe_var (i := i) hN hv hd hcd) hb) he hf m2 hu).weak fun σ H Q ⟨ρ, d, R, q, z⟩ => by
  obtain ⟨kd, q1, q⟩ := Option.bind_eq_some_iff.mp q
  obtain ⟨d0, q2, q⟩ := Option.bind_eq_some_iff.mp q
  obtain ⟨⟨C', fs⟩, q3, q⟩ := Option.bind_eq_some_iff.mp q
  by_cases hC : C' = C
  · subst hC
    rw [if_pos rfl] at q
    obtain ⟨kvs, q5, q⟩ := Option.bind_eq_some_iff.mp q
    obtain ⟨k, q4, q⟩ := Option.bind_eq_some_iff.mp q
    cases q
    obtain ⟨⟨ds, rfl⟩, ek, hl⟩ := tupKey_some q4
    obtain ⟨x, dx, vs, fp, h1, h2, h3⟩ := R.ins q3
    obtain ⟨l, es, g1, g2, g3, _⟩ := h3.lookM (mapF_some q5)
    refine ⟨_, h1, x, _, dx, vs, _, rfl, h2, c, na, g1, l, es, kvs, rfl, g2, g3, ρ, _, R, q1, fun v H1 s1 r1 => ⟨ρ, _, R.mono s1, q2, fun v0 H2 s2 r2 => ?_⟩⟩
    have s := s1.trans s2
    have r1 : Rp X.K H1 v (.tuple ds) := r1
    cases r1 with
    | @tup b xs _ hq rr =>
      exact ⟨b, es, kvs, k, .tuple ds, d0, rfl, s _ _ g2, g3.mono (firm s), (Rp.tup hq rr).mono (firm s2), ek, hl, r2, fun v rv => z v H2 s rv⟩
  · rw [if_neg hC] at q; cases q
/-! {} -/
def tMNew (X : Cx) : TE := fun _ H Q => ∀ x, H x = none → Q (.ref x) (upd H x (.ext (mapP (X.prog, X.w) x [])))
theorem pe_mnew : PE X (.Dict [] [] pos) (tMNew X) := ⟨fun pins s σ H Q I h => by
  have new : mapP (X.prog, X.w) s.heap.objs.size [] (s.heap.push { cls := .type "dict", data := .dict #[] }) := ⟨beq_eq_false_iff_ne.mpr (Ne.symm (Nat.ne_of_lt I.big)), Nat.zero_le _, [], .nil, _, #[], 0, Heap.get?_push_size _ rfl, ⟨rfl, rfl, rfl⟩, rfl, rfl, List.nodup_nil⟩
  exact wpAny_Dict_empty ⟨.ref s.heap.objs.size, _, I.laid (t' := s.toks) (fun _ _ q => Heap.get?_push_of_some _ q) (Nat.le_refl _) (mapP_ok new), rfl, h _ (I.hok.fresh (Nat.le_refl _))⟩⟩
/-- name = {} -/
def sMNew (pw : PgW) (i : Nat) : MS := fun ρ => if isO ρ[i]? = true ∨ ρ.length ≤ i then .stuck else .nx (ρ.set i (.o (.map pw [])))
theorem sm_mnew {i : Nat} {pos' : Pos} (hN : X.N.Nodup) (hi : X.N[i]? = some x) (hx : Loc X.env.scope x) (hs : swapsWith (.Dict [] [] dpos) (some (.Name x pos')) pos.line X.env = pure false := by rfl)
    (hf : X.fn x = true ∨ X.env.scope.names.lookup x = some .local := by first | exact .inl rfl | exact .inr rfl | assumption) : PSm X B W rk (.Assign [.Name x pos'] (.Dict [] [] dpos) pos) (sMNew (X.prog, X.w) i) :=
  (ps_set hN hi hx pe_mnew hs hf).weak fun D σ H ⟨ρ, φ, E, q⟩ => by
    unfold sMNew at q
    split at q
    · exact q.elim
    · rename_i hn
      have h1 : isO ρ[i]? = false := Bool.eq_false_iff.mpr fun z => hn (.inl z)
      have h2 : i < ρ.length := Nat.lt_of_not_le fun z => hn (.inr z)
      intro y ny
      exact q _ _ _ (E.setAs (isO_no h1) h2 (same_new ny _) ny (.map upd_same .nil)) ⟨fun b o _ h => same_new ny _ b o h, fun j b z => z.elim (fun z => .inr (by rw [z.2]; exact ny)) fun z => .inl ⟨j, z⟩⟩
/-- o.f = {} -/
def sAttrM (pw : PgW) (i : Nat) (C f : Str) : MS := fun ρ => match ρ[i]? with
  | some (.o (.ins C' fs)) => if C' = C ∧ fs.length < 1000 then .nx (ρ.set i (.o (.ins C (putFl f (.m pw []) fs)))) else .stuck
  | _ => .stuck
theorem sm_attrM (c : Cls X.K (He.ga X.K C)) (na : NoAttr X.K (He.ga X.K C) f) (hN : X.N[i]? = some y) (hs : swapsWith (.Dict [] [] dpos) (some (.Attribute (.Name y p) f apos)) pos.line X.env = pure false := by rfl) (hv : Vis X.env.scope y := by first | exact Or.inl rfl | exact Or.inr (Or.inl rfl) | exact Or.inr (Or.inr rfl))
    (hd : (y == ("__debug__" : Str)) = false := by decide) (hcd : (y == ("__classdict__" : Str)) = false := by decide) : PSm X B W rk (.Assign [.Attribute (.Name y p) f apos] (.Dict [] [] dpos) pos) (sAttrM (X.prog, X.w) i C f) := (ps_fld (pe_var (i := i) hN hv hd hcd) pe_mnew hs).weak fun D σ H ⟨ρ, φ, E, q⟩ => by
  intro l nl
  have s1 : Same H (upd H l (.ext (mapP (X.prog, X.w) l []))) := same_new nl _
  unfold sAttrM at q
  split at q
  · rename_i C' fs h0
    by_cases hC : C' = C ∧ fs.length < 1000
    · rw [if_pos hC] at q
      obtain ⟨rfl, hl⟩ := hC
      have E1 := E.same s1
      obtain ⟨x, dx, vs, fp, h1, h2, h3, h4, h5⟩ := E1.ins h0
      refine ⟨_, h1, x, _, dx, vs, rfl, h2, c, na, by rw [h4.len]; exact hl, ?_⟩
      have nφ : ∀ j, ¬ φ j l := fun j z => by obtain ⟨o, q, _⟩ := E.there z; rw [nl] at q; cases q
      obtain ⟨fp', h6, h7⟩ := h4.putM (f := f) (upd_same (a := l)) .nil (fun z => nφ i (by rw [h5]; exact .inr (.inr z)))
      have ndx : dx ≠ x := fun z => by rw [z, h2] at h3; cases h3
      have fi : Firm (upd H l (.ext (mapP (X.prog, X.w) l []))) (upd (upd H l (.ext (mapP (X.prog, X.w) l []))) x (.ins (He.ga X.K C') dx (putF f (.ref l) vs))) := ⟨fun b ys z => by rw [upd_ne (ne_of z h2 (by intro z; cases z))]; exact z, fun b o u z => by rw [upd_ne (ne_of z h2 (by intro z; cases z))]; exact z⟩
      have k0 : ∀ b o, ¬ φ i b → H b = some o → upd (upd H l (.ext (mapP (X.prog, X.w) l []))) x (.ins (He.ga X.K C') dx (putF f (.ref l) vs)) b = some o := fun b o n z => by
        have n' : b ≠ x := fun e => n (by rw [h5]; exact .inl e)
        rw [upd_ne n']; exact s1 b o z
      have sb : ∀ b, (b = x ∨ b = dx ∨ fp' b) → φ i b ∨ H b = none := fun b z => by
        rcases z with z | z | z
        · exact .inl (by rw [h5]; exact .inl z)
        · exact .inl (by rw [h5]; exact .inr (.inl z))
        · rcases h7 b z with z | z
          · subst z; exact .inr nl
          · exact .inl (by rw [h5]; exact .inr (.inr z))
      refine q _ _ _ (EnvOk.turn E h0 h1 k0 (.ins upd_same (by rw [upd_ne ndx]; exact h3) (h6.mono fi fun b o hb z => ?_)) sb fun b hb => ?_) (Ev.turn (K := X.K) k0 sb)
      · obtain ⟨o', hy, hn⟩ := h6.isL b hb
        rw [upd_ne (ne_of hy h2 (hn _ _ _))]
        exact z
      · by_cases e : b = x
        · subst e; exact ⟨_, upd_same⟩
        · obtain ⟨o, ho, _⟩ := E1.there hb
          exact ⟨o, by rw [upd_ne e]; exact ho⟩
    · rw [if_neg hC] at q; exact q.elim
  · exact q.elim
/-! d[k] = v -/
open Classical in
noncomputable def sMPut (pw : PgW) (i : Nat) (mk mv : ME) : MS := fun ρ => match mv ρ, (mk ρ).bind tupKey, ρ[i]? with
  | some d, some k, some (.o (.map pw' kvs)) => if pw' = pw ∧ kvs.length < sizeLine then .nx (ρ.set i (.o (.map pw (storK kvs k d)))) else .stuck
  | _, _, _ => .stuck
theorem sm_mput {pos' : Pos} (hu : X.A.units + 200 < cLine) (he : PEm X B.xo .per e mk) (hval : PEm X B.xo .per a mv) (hN : X.N[i]? = some y) (hv : Vis X.env.scope y := by first | exact Or.inl rfl | exact Or.inr (Or.inl rfl) | exact Or.inr (Or.inr rfl)) (hd : (y == ("__debug__" : Str)) = false := by decide)
    (hcd : (y == ("__classdict__" : Str)) = false := by decide) (hs : swapsWithSole [.Subscript (.Name y p) e pos'] a pos.line X.env = pure false := by rfl) (hw : swappedStores [.Subscript (.Name y p) e pos'] a X.env = pure none := by rfl)
    (h1 : (assignEach [.Subscript (.Name y p) e pos'] X.env).map (·.2) = [assign (.Subscript (.Name y p) e pos') X.env] := by rfl)
    (ha : ∀ v, assign (.Subscript (.Name y p) e pos') X.env v = (do
      let ov ← holding [v] (eval (.Name y p) X.env); let iv ← holding [v, ov] (eval e X.env); standAt pos'; holding [v, ov, iv] (setItem ov iv v); release [v, ov, iv] []) := by intro _; rfl) :
    PSm X B W rk (.Assign [.Subscript (.Name y p) e pos'] a pos) (sMPut (X.prog, X.w) i mk mv) := (ps_asg hval (pg_sub (pe_var (i := i) hN hv hd hcd) he (set_map hu) ha) hs hw h1).weak fun D σ H ⟨ρ, φ, E, q⟩ => by
  unfold sMPut at q
  split at q
  · rename_i d k pw' kvs q1 q2 q3
    split at q
    · rename_i hc
      obtain ⟨rfl, hl⟩ := hc
      obtain ⟨kd, q4, q2⟩ := Option.bind_eq_some_iff.mp q2
      obtain ⟨⟨ds, rfl⟩, ek, hdp⟩ := tupKey_some q2
      obtain ⟨l, e1, r⟩ := E.own q3
      generalize hfp : φ i = fp at r
      cases r with
      | map ea rr =>
        rename_i es0
        refine ⟨ρ, d, E.rd, q1, fun v H1 s1 r1 => ⟨_, e1, ρ, _, E.rd.mono s1, q4, fun u H2 s2 r2 => ?_⟩⟩
        have s := s1.trans s2
        have r2 : Rp X.K H2 u (.tuple ds) := r2
        cases r2 with
        | @tup t xs _ hq rs =>
          have rv : Rp X.K H2 v d := Rp.mono (firm s2) r1
          have hl2 := s _ _ ea
          have k0 : ∀ b o, ¬ φ i b → H2 b = some o → upd H2 l (.ext (mapP (X.prog, X.w) l (storE es0 (lookK kvs k).isSome k t v))) b = some o := fun b o n z => by
            have n' : b ≠ l := fun e => n (by rw [hfp]; exact e)
            rw [upd_ne n']; exact z
          have fi : Firm H2 (upd H2 l (.ext (mapP (X.prog, X.w) l (storE es0 (lookK kvs k).isSome k t v)))) := ⟨fun b ys z => by rw [upd_ne (ne_of z hl2 (by intro z; cases z))]; exact z, fun b o u z => by rw [upd_ne (ne_of z hl2 (by intro z; cases z))]; exact z⟩
          have sb : ∀ b, b = l → φ i b ∨ H2 b = none := fun b z => .inl (by rw [hfp]; exact z)
          refine ⟨l, t, es0, kvs, k, .tuple ds, d, rfl, rfl, hl2, rr.mono (firm s), .tup hq rs, ek, hdp, rv, hl, ?_⟩
          refine q _ _ _ (EnvOk.turn (E.same s) q3 e1 k0 (.map upd_same (((rr.mono (firm s)).put (.tup hq rs) ek hdp rv).mono fi)) sb fun b z => ?_) ((Ev.same s).trans (Ev.turn (K := X.K) k0 sb))
          rw [hfp] at z
          have z : b = l := z
          subst z
          exact ⟨_, upd_same⟩
    · exact q.elim
  · exact q.elim
open Classical in
noncomputable def sMPutF (pw : PgW) (i : Nat) (C f : Str) (mk mv : ME) : MS := fun ρ => match mv ρ, (mk ρ).bind tupKey, ρ[i]? with
  | some d, some k, some (.o (.ins C' fs)) => match fs.lookup f with
    | some (.m pw' kvs) => if C' = C ∧ pw' = pw ∧ kvs.length < sizeLine then .nx (ρ.set i (.o (.ins C (putFl f (.m pw (storK kvs k d)) fs)))) else .stuck
    | _ => .stuck
  | _, _, _ => .stuck
theorem sm_mputF {pos' : Pos} (hu : X.A.units + 200 < cLine) (c : Cls X.K (He.ga X.K C)) (na : NoAttr X.K (He.ga X.K C) f) (he : PEm X B.xo .per e mk) (hval : PEm X B.xo .per a mv) (hN : X.N[i]? = some y) (hv : Vis X.env.scope y := by first | exact Or.inl rfl | exact Or.inr (Or.inl rfl) | exact Or.inr (Or.inr rfl)) (hd : (y == ("__debug__" : Str)) = false := by decide)
    (hcd : (y == ("__classdict__" : Str)) = false := by decide) (hb : attributeBase (.Name y p) f X.env (eval (.Name y p) X.env) = eval (.Name y p) X.env := by rfl) (hs : swapsWithSole [.Subscript (.Attribute (.Name y p) f p2) e pos'] a pos.line X.env = pure false := by rfl) (hw : swappedStores [.Subscript (.Attribute (.Name y p) f p2) e pos'] a X.env = pure none := by rfl)
    (h1 : (assignEach [.Subscript (.Attribute (.Name y p) f p2) e pos'] X.env).map (·.2) = [assign (.Subscript (.Attribute (.Name y p) f p2) e pos') X.env] := by rfl)
    (ha : ∀ v, assign (.Subscript (.Attribute (.Name y p) f p2) e pos') X.env v = (do
      let ov ← holding [v] (eval (.Attribute (.Name y p) f p2) X.env); let iv ← holding [v, ov] (eval e X.env); standAt pos'; holding [v, ov, iv] (setItem ov iv v); release [v, ov, iv] []) := by intro _; rfl) :
    PSm X B W rk (.Assign [.Subscript (.Attribute (.Name y p) f p2) e pos'] a pos) (sMPutF (X.prog, X.w) i C f mk mv) := (ps_asg hval (pg_sub (pe_fld (pe_var (i := i) hN hv hd hcd) hb) he (set_map hu) ha) hs hw h1).weak fun D σ H ⟨ρ, φ, E, q⟩ => by
  unfold sMPutF at q
  split at q
  · rename_i d k C' fs q1 q2 q3
    split at q
    · rename_i pw' kvs q5
      split at q
      · rename_i hc
        obtain ⟨rfl, rfl, hl⟩ := hc
        obtain ⟨kd, q4, q2⟩ := Option.bind_eq_some_iff.mp q2
        obtain ⟨⟨ds, rfl⟩, ek, hdp⟩ := tupKey_some q2
        refine ⟨ρ, d, E.rd, q1, fun v H1 s1 r1 => ?_⟩
        obtain ⟨x, dx, vs, fp, g1, g2, g3, g4, g5⟩ := (E.same s1).ins q3
        obtain ⟨l0, es1, m1, m2, m3, m4⟩ := g4.lookM q5
        refine ⟨_, g1, x, _, dx, vs, _, rfl, g2, c, na, m1, ρ, _, E.rd.mono s1, q4, fun u H2 s2 r2 => ?_⟩
        have s := s1.trans s2
        have r2 : Rp X.K H2 u (.tuple ds) := r2
        cases r2 with
        | @tup t xs _ hq rs =>
          have rv : Rp X.K H2 v d := Rp.mono (firm s2) r1
          have g4' := g4.mono (firm s2) fun b o _ z => s2 b o z
          obtain ⟨l, es0, n1, n2, n3, n4, n5⟩ := g4'.turnM q5
          rw [m1] at n1
          cases n1
          have ndx : dx ≠ l0 := fun z => by rw [z] at g3; rw [s2 _ _ g3] at n2; cases n2
          have nx : x ≠ l0 := fun z => by rw [z] at g2; rw [s2 _ _ g2] at n2; cases n2
          have hφ : φ i l0 := by rw [g5]; exact .inr (.inr n4)
          have k0 : ∀ b o, ¬ φ i b → H2 b = some o → upd H2 l0 (.ext (mapP (X.prog, X.w) l0 (storE es0 (lookK kvs k).isSome k t v))) b = some o := fun b o n z => by
            have n' : b ≠ l0 := fun e => n (by rw [e]; exact hφ)
            rw [upd_ne n']; exact z
          have sb : ∀ b, (b = x ∨ b = dx ∨ fp b) → φ i b ∨ H2 b = none := fun b z => .inl (by rw [g5]; exact z)
          refine ⟨l0, t, es0, kvs, k, .tuple ds, d, rfl, rfl, n2, n3, .tup hq rs, ek, hdp, rv, hl, ?_⟩
          refine q _ _ _ (EnvOk.turn (E.same s) q3 g1 k0 (.ins (by rw [upd_ne nx]; exact s2 _ _ g2) (by rw [upd_ne ndx]; exact s2 _ _ g3) (n5 _ _ (n3.put (.tup hq rs) ek hdp rv))) sb fun b hb => ?_) ((Ev.same s).trans (Ev.turn (K := X.K) k0 sb))
          by_cases e : b = l0
          · subst e; exact ⟨_, upd_same⟩
          · obtain ⟨o, ho, _⟩ := (E.same s).there hb
            exact ⟨o, by rw [upd_ne e]; exact ho⟩
      · exact q.elim
    · exact q.elim
  · exact q.elim
/-! own[j] = d -/
def sSetIx (i : Nat) (mj mv : ME) : MS := fun ρ => match mv ρ, mj ρ, ρ[i]? with
  | some d, some (.int j), some (.o (.lst ds)) => match ixN ds.length j with
    | some n => .nx (ρ.set i (.o (.lst (ds.set n d))))
    | none => .stuck
  | _, _, _ => .stuck
theorem Rps.set {K : PySem.W.Frag} {H : Hp} : ∀ {vs : List V} {ds : List PyData} {v : V} {d : PyData} (n : Nat), Rps K H vs ds → Rp K H v d → Rps K H (vs.set n v) (ds.set n d)
  | _, _, _, _, _, .nil, _ => .nil
  | _, _, _, _, 0, .cons _ t, r => .cons r t
  | _, _, _, _, n + 1, .cons a t, r => .cons a (Rps.set n t r)
theorem sm_setIx {pos' : Pos} (he : PEm X B.xo .per e mk) (hval : PEm X B.xo .per a mv) (hN : X.N[i]? = some y) (hv : Vis X.env.scope y := by first | exact Or.inl rfl | exact Or.inr (Or.inl rfl) | exact Or.inr (Or.inr rfl)) (hd : (y == ("__debug__" : Str)) = false := by decide)
    (hcd : (y == ("__classdict__" : Str)) = false := by decide) (hs : swapsWithSole [.Subscript (.Name y p) e pos'] a pos.line X.env = pure false := by rfl) (hw : swappedStores [.Subscript (.Name y p) e pos'] a X.env = pure none := by rfl)
    (h1 : (assignEach [.Subscript (.Name y p) e pos'] X.env).map (·.2) = [assign (.Subscript (.Name y p) e pos') X.env] := by rfl)
    (ha : ∀ v, assign (.Subscript (.Name y p) e pos') X.env v = (do
      let ov ← holding [v] (eval (.Name y p) X.env); let iv ← holding [v, ov] (eval e X.env); standAt pos'; holding [v, ov, iv] (setItem ov iv v); release [v, ov, iv] []) := by intro _; rfl) :
    PSm X B W rk (.Assign [.Subscript (.Name y p) e pos'] a pos) (sSetIx i mk mv) := (ps_asg hval (pg_sub (pe_var (i := i) hN hv hd hcd) he set_list ha) hs hw h1).weak fun D σ H ⟨ρ, φ, E, q⟩ => by
  unfold sSetIx at q
  split at q
  · rename_i d j ds q1 q2 q3
    split at q
    · rename_i n q4
      obtain ⟨l, e1, r⟩ := E.own q3
      generalize hfp : φ i = fp at r
      cases r with
      | @lst _ xs _ ea r =>
        refine ⟨ρ, d, E.rd, q1, fun v H1 s1 r1 => ⟨_, e1, ρ, _, E.rd.mono s1, q2, fun u H2 s2 r2 => ?_⟩⟩
        have s := s1.trans s2
        have eu := r2.toAny.int
        subst eu
        have rv : Rp X.K H2 v d := Rp.mono (firm s2) r1
        have hl2 := s _ _ ea
        have k0 : ∀ b o, ¬ φ i b → H2 b = some o → upd H2 l (.lst (xs.set n v)) b = some o := fun b o n z => by
          have n' : b ≠ l := fun e => n (by rw [hfp]; exact e)
          rw [upd_ne n']; exact z
        have fi : Firm H2 (upd H2 l (.lst (xs.set n v))) := ⟨fun b ys z => by rw [upd_ne (ne_of z hl2 (by intro z; cases z))]; exact z, fun b o u z => by rw [upd_ne (ne_of z hl2 (by intro z; cases z))]; exact z⟩
        have sb : ∀ b, b = l → φ i b ∨ H2 b = none := fun b z => .inl (by rw [hfp]; exact z)
        refine ⟨l, xs, j, n, rfl, rfl, hl2, by rw [r.length]; exact q4, ?_⟩
        refine q _ _ _ (EnvOk.turn (E.same s) q3 e1 k0 (.lst upd_same (Rps.set n ((r.mono (firm s)).mono fi) (rv.mono fi))) sb fun b z => ?_) ((Ev.same s).trans (Ev.turn (K := X.K) k0 sb))
        rw [hfp] at z
        have z : b = l := z
        subst z
        exact ⟨_, upd_same⟩
    · exact q.elim
  · exact q.elim
end
end PL

/- PL: calls that are handed a dict to read, a new dict, fewer arguments than there are names -/
namespace PL
open PySem PySem.Spec PyProof.Rows L2
/-! ### a call that turns nothing and reads own things -/
inductive RSl (K : PySem.W.Frag) (H : Hp) : List V → List Sl → Prop
  | nil : RSl K H [] []
  | d {v : V} {d : PyData} {vs sls} : Rp K H v d → RSl K H vs sls → RSl K H (v :: vs) (.d d :: sls)
  | r {x : Addr} {ob : Ob} {fp : Addr → Prop} {vs sls} : OwnRep K H fp x ob → RSl K H vs sls → RSl K H (.ref x :: vs) (.r ob :: sls)
theorem RSl.len {K : PySem.W.Frag} {H : Hp} {vs sls} (h : RSl K H vs sls) : vs.length = sls.length := by
  induction h with
  | nil => rfl
  | d _ _ ih => exact congrArg Nat.succ ih
  | r _ _ ih => exact congrArg Nat.succ ih
theorem RSl.sl {K : PySem.W.Frag} {H : Hp} {vs sls} (h : RSl K H vs sls) : ∀ (j : Nat) (s : Sl), sls[j]? = some s → SlOk K H (fun _ => False) (fun _ => False) (vs.map some)[j]? s ∧ (∀ ob, s ≠ .o ob) ∧ ∀ c, s ≠ .x c := by
  induction h with
  | nil => exact fun j s q => by simp at q
  | d r _ ih =>
    intro j s q
    cases j with
    | zero => simp at q; subst q; exact ⟨.d r fun _ z => z, (by intro ob z; cases z), by intro c z; cases z⟩
    | succ j => simpa using ih j s (by simpa using q)
  | r r _ ih =>
    intro j s q
    cases j with
    | zero => simp at q; subst q; exact ⟨.r r (fun _ _ z => z) fun _ z => z, (by intro ob z; cases z), by intro c z; cases z⟩
    | succ j => simpa using ih j s (by simpa using q)
theorem RSl.argsOk {K : PySem.W.Frag} {H : Hp} {vs sls} (h : RSl K H vs sls) : ArgsOk K H vs sls (fun _ _ => False) := by
  have no : (fun b => ∃ j : Nat, (fun (_ : Nat) (_ : Addr) => False) j b) = fun _ : Addr => False := by funext b; exact propext ⟨fun ⟨_, z⟩ => z, False.elim⟩
  refine ⟨by simp [h.len], fun j s q => ?_, fun _ _ _ z => z, fun _ _ _ z => z.elim, fun b o _ q => q, fun b ⟨_, z⟩ => z.elim, fun _ _ z => z.elim, fun j y q => ?_, fun j c q => absurd rfl ((h.sl j _ q).2.2 c)⟩
  · rw [no]; exact (h.sl j s q).1
  · have q : ioOf vs sls j = some y := q
    unfold ioOf at q
    split at q
    · rename_i ob z h1 _; exact absurd rfl ((h.sl j _ h1).2.1 ob)
    · cases q
abbrev MSl := Rho → Option (List Sl)
def tSl (K : PySem.W.Frag) (xo : XO) (m : MSl) : TA := fun σ H Q => ∃ ρ sls, RdOk K xo H σ ρ ∧ m ρ = some sls ∧ ∀ vs H', Same H H' → RSl K H' vs sls → Q vs H'
abbrev PAl (X : Cx) (xo : XO) (es : List Expr) (m : MSl) : Prop := PA X es (tSl X.K xo m)
def mlNil : MSl := fun _ => some []
def mlD (m : ME) (ms : MSl) : MSl := fun ρ => (m ρ).bind fun d => (ms ρ).map (.d d :: ·)
def obOf : Option Sl → Option Ob
  | some (.o ob) => some ob
  | some (.r ob) => some ob
  | _ => none
def mlR (i : Nat) (ms : MSl) : MSl := fun ρ => (obOf ρ[i]?).bind fun ob => (ms ρ).map (.r ob :: ·)
theorem obOf_rep {K : PySem.W.Frag} {xo : XO} {H : Hp} {σ : L2.St} {ρ : Rho} {i : Nat} {ob : Ob} (R : RdOk K xo H σ ρ) (e : obOf ρ[i]? = some ob) : ∃ x fp, σ[i]? = some (some (.ref x)) ∧ OwnRep K H fp x ob := by
  cases q : ρ[i]? with
  | none => rw [q] at e; cases e
  | some s =>
    rw [q] at e
    have r := R.rd i s q
    generalize σ[i]? = w at r ⊢
    cases s with
    | o ob' => cases e; cases r with | o r => exact ⟨_, _, rfl, r⟩
    | r ob' => cases e; cases r with | r r => exact ⟨_, _, rfl, r⟩
    | _ => cases e
def mCallR (fm : FM) (ms : MSl) : ME := fun ρ => (ms ρ).bind fun sls => match fm sls with
  | .ret d _ => some d
  | _ => none
section
variable {X : Cx} {B : Bd} {W : WX} {xo : XO} {e : Expr} {es : List Expr} {m : ME} {ms : MSl} {pos p : Pos} {x y : Str} {n i : Nat} {fm : FM}
theorem pal_nil : PAl X xo [] mlNil := pa_nil.weak fun σ H Q ⟨ρ, sls, R, q, z⟩ => by
  cases q
  exact z _ _ (Same.refl H) .nil
theorem pal_d (ha : PEm X xo .per e m) (hr : PAl X xo es ms) (hs : starEach (e :: es) X.env = (false, eval e X.env) :: starEach es X.env := by rfl) : PAl X xo (e :: es) (mlD m ms) := (pa_cons ha hr hs).weak fun σ H Q ⟨ρ, sls, R, q, z⟩ => by
  obtain ⟨d, q1, q⟩ := Option.bind_eq_some_iff.mp q
  obtain ⟨ss, q2, rfl⟩ := Option.map_eq_some_iff.mp q
  exact ⟨ρ, d, R, q1, fun v H1 s1 r1 => ⟨ρ, ss, R.mono s1, q2, fun vs H2 s2 r2 => z _ _ (s1.trans s2) (.d (Rp.mono (firm s2) r1) r2)⟩⟩
theorem pal_r (i : Nat) (hN : X.N[i]? = some y) (hr : PAl X xo es ms) (hv : Vis X.env.scope y := by first | exact Or.inl rfl | exact Or.inr (Or.inl rfl) | exact Or.inr (Or.inr rfl)) (hd : (y == ("__debug__" : Str)) = false := by decide) (hcd : (y == ("__classdict__" : Str)) = false := by decide)
    (hs : starEach (.Name y p :: es) X.env = (false, eval (.Name y p) X.env) :: starEach es X.env := by rfl) : PAl X xo (.Name y p :: es) (mlR i ms) := (pa_cons (pe_var (i := i) hN hv hd hcd) hr hs).weak fun σ H Q ⟨ρ, sls, R, q, z⟩ => by
  obtain ⟨ob, q1, q⟩ := Option.bind_eq_some_iff.mp q
  obtain ⟨ss, q2, rfl⟩ := Option.map_eq_some_iff.mp q
  obtain ⟨a, fp, h1, h2⟩ := obOf_rep R q1
  refine ⟨_, h1, ρ, ss, R, q2, fun vs H2 s2 r2 => ?_⟩
  obtain ⟨a', fp', g1, g2⟩ := obOf_rep (R.mono s2) q1
  rw [h1] at g1
  cases g1
  exact z _ _ s2 (.r g2 r2)
theorem pm_callR (G : FnT X.prog X.w X.K X.mg X.base n x .per fm) (hr : Room n X.A) (hg : Gl X x) (ha : PAl X xo (e :: es) ms) (hdb : (x == ("__debug__" : Str)) = false := by decide) (he : starEach (e :: es) X.env = (false, eval e X.env) :: starEach es X.env := by rfl)
    (hpl : (backTo pos (starEach es X.env)).any (·.1) = false := by rfl) : PEm X xo .per (.Call (.Name x p) (e :: es) [] pos) (mCallR fm ms) := by
  obtain ⟨f, fd, ps, F, hm, hk, hb⟩ := G.ex
  refine (pe_call F hr hg hm hk hb .nil passL ha hdb he hpl).weak fun σ H Q ⟨ρ, d, R, q, z⟩ => ?_
  obtain ⟨sls, q1, q⟩ := Option.bind_eq_some_iff.mp q
  refine ⟨ρ, sls, R, q1, fun vs H1 s1 r1 => ?_⟩
  show spM X.K .per fm (vs ++ []) H1 Q E0
  rw [List.append_nil]
  refine ⟨sls, _, r1.argsOk, ?_⟩
  cases ef : fm sls with
  | ret d' obs =>
    rw [ef] at q
    cases q
    intro v H' φ' O r
    have s : Same H1 H' := fun b o q => O.ev.st b o (fun ⟨_, z⟩ => z) q
    exact z v H' (s1.trans s) r
  | ex c obs => rw [ef] at q; cases q
  | stuck => rw [ef] at q; cases q
end
/-! ### one slot more, for a while -/
theorem EnvOk.longer {K : PySem.W.Frag} {B : Bd} {H : Hp} {σ : L2.St} {ρ : Rho} {φ : Nat → Addr → Prop} (h : EnvOk K B H σ ρ φ) : EnvOk K B H (σ ++ [none]) (ρ ++ [.nil]) φ := by
  refine ⟨by simp [h.len], fun i s q => ?_, fun i q => h.out i ?_, h.dis, h.frm, h.frz, h.sub, fun i x q => ?_, fun i c q => ?_⟩
  · by_cases hi : i < ρ.length
    · rw [List.getElem?_append_left hi] at q
      rw [List.getElem?_append_left (by rw [h.len]; exact hi)]
      exact h.sl i s q
    · rw [List.getElem?_append_right (by omega)] at q
      have e : i - ρ.length = 0 := by
        have := (List.getElem?_eq_some_iff.mp q).1
        simp at this
        omega
      rw [e] at q
      cases q
      exact .nil (h.out i (List.getElem?_eq_none_iff.mpr (by omega)))
  · rw [List.getElem?_eq_none_iff] at q ⊢
    simp at q
    omega
  · obtain ⟨q1, ob, q2⟩ := h.io i x q
    exact ⟨by rw [List.getElem?_append_left (List.getElem?_eq_some_iff.mp q1).1]; exact q1, ob, by rw [List.getElem?_append_left (List.getElem?_eq_some_iff.mp q2).1]; exact q2⟩
  · by_cases hi : i < ρ.length
    · rw [List.getElem?_append_left hi] at q
      rw [List.getElem?_append_left (by rw [h.len]; exact hi)]
      exact h.xo i c q
    · rw [List.getElem?_append_right (by omega)] at q
      have e : i - ρ.length = 0 := by
        have := (List.getElem?_eq_some_iff.mp q).1
        simp at this
        omega
      rw [e] at q
      cases q
theorem SlOk.less {K : PySem.W.Frag} {H : Hp} {all all' fp : Addr → Prop} {v s} (h : SlOk K H all fp v s) (l : ∀ b, all' b → all b) : SlOk K H all' fp v s := by
  cases h with
  | nil z => exact .nil z
  | d r z => exact .d r z
  | b q r z => exact .b (q.imp (fun z => ⟨z.1, fun y => z.2 (l _ y)⟩) id) r z
  | o r => exact .o r
  | r r n z => exact .r r (fun b hb y => n b hb (l b y)) z
  | x z => exact .x z
theorem EnvOk.shorter {K : PySem.W.Frag} {B : Bd} {H : Hp} {σ : L2.St} {ρ : Rho} {φ : Nat → Addr → Prop} {n : Nat} (h : EnvOk K B H σ ρ φ) (hio : ∀ i, n ≤ i → B.io i = none) : EnvOk K B H (σ.take n) (ρ.take n) fun i b => i < n ∧ φ i b := by
  have tk : ∀ {i : Nat}, i < n → (ρ.take n)[i]? = ρ[i]? ∧ (σ.take n)[i]? = σ[i]? := fun {i} hi => ⟨List.getElem?_take_of_lt hi, List.getElem?_take_of_lt hi⟩
  have ge : ∀ {i : Nat} {s : Sl}, (ρ.take n)[i]? = some s → i < n := fun {i s} q => by
    have := (List.getElem?_eq_some_iff.mp q).1
    rw [List.length_take] at this
    omega
  refine ⟨by simp [h.len], fun i s q => ?_, fun i q b hb => ?_, fun i j b hi hj => h.dis i j b hi.2 hj.2, h.frm, h.frz, fun i b hb => h.sub i b hb.2, fun i x q => ?_, fun i c q => ?_⟩
  · have hi := ge q
    rw [(tk hi).1] at q
    rw [(tk hi).2]
    have e : (fun b => i < n ∧ φ i b) = φ i := by funext b; exact propext ⟨fun z => z.2, fun z => ⟨hi, z⟩⟩
    rw [e]
    exact (h.sl i s q).less fun b ⟨j, z⟩ => ⟨j, z.2⟩
  · rw [(tk hb.1).1] at q
    exact h.out i q b hb.2
  · have hi : i < n := Nat.lt_of_not_le fun z => by rw [hio i z] at q; cases q
    rw [(tk hi).1, (tk hi).2]
    exact h.io i x q
  · have hi := ge q
    rw [(tk hi).1] at q
    rw [(tk hi).2]
    exact h.xo i c q
/-! ### a call one of whose arguments is a new dict; the others are names -/
inductive GM where
  | o (i : Nat) | r (i : Nat) | b (i : Nat) | d (i : Nat) | e
def gmX (n : Nat) (ρ : Rho) : GM → Option XA
  | .o i => some (.o i)
  | .r i => some (.r i)
  | .b i => some (.b i)
  | .d i => match ρ[i]? with
    | some (.d d) => some (.d d)
    | _ => none
  | .e => some (.r n)
def gmXs (n : Nat) (ρ : Rho) : List GM → Option (List XA)
  | [] => some []
  | g :: gs => (gmX n ρ g).bind fun a => (gmXs n ρ gs).map (a :: ·)
def cutX (n : Nat) : XOut → XOut
  | .val d ρ => .val d (ρ.take n)
  | .ex c ρ => .ex c (ρ.take n)
  | .stuck => .stuck
def inRho (ρ : Rho) : GM → Bool
  | .o i => decide (i < ρ.length)
  | .r i => decide (i < ρ.length)
  | .b i => decide (i < ρ.length)
  | .d i => decide (i < ρ.length)
  | .e => true
def xCallG (pw : PgW) (fm : FM) (gs : List GM) : MX := fun ρ => if gs.all (inRho ρ) = true then (match gmXs ρ.length ρ gs with
  | some as => (match okA as, slsOf (ρ ++ [.o (.map pw [])]) as with
    | true, some sls => cutX ρ.length (xFin as (ρ ++ [.o (.map pw [])]) (fm sls))
    | _, _ => .stuck)
  | none => .stuck) else .stuck
def gmIx : GM → Option Nat
  | .o i => some i
  | .r i => some i
  | .b i => some i
  | .d i => some i
  | .e => none
def tGa (X : Cx) : List (Option Nat) → TA
  | [] => tNil
  | some i :: r => tCons (tVar i) (tGa X r)
  | none :: r => tCons (tMNew X) (tGa X r)
section
variable {X : Cx} {B : Bd} {W : WX} {e : Expr} {es : List Expr} {pos p : Pos} {x y : Str} {n i : Nat} {fm : FM} {gs : List GM}
theorem pga_nil : PA X [] (tGa X []) := pa_nil
theorem pga_v {r : List (Option Nat)} (i : Nat) (hN : X.N[i]? = some y) (hr : PA X es (tGa X r)) (hv : Vis X.env.scope y := by first | exact Or.inl rfl | exact Or.inr (Or.inl rfl) | exact Or.inr (Or.inr rfl)) (hd : (y == ("__debug__" : Str)) = false := by decide) (hcd : (y == ("__classdict__" : Str)) = false := by decide)
    (hs : starEach (.Name y p :: es) X.env = (false, eval (.Name y p) X.env) :: starEach es X.env := by rfl) : PA X (.Name y p :: es) (tGa X (some i :: r)) := pa_cons (pe_var (i := i) hN hv hd hcd) hr hs
theorem pga_e {r : List (Option Nat)} (hr : PA X es (tGa X r)) (hs : starEach (.Dict [] [] p :: es) X.env = (false, eval (.Dict [] [] p) X.env) :: starEach es X.env := by rfl) : PA X (.Dict [] [] p :: es) (tGa X (none :: r)) := pa_cons pe_mnew hr hs
/-- the values that come: a the new dict -/
def gaVs (σ : L2.St) (a : V) : List (Option Nat) → List V
  | [] => []
  | some i :: r => ((σ[i]?.getD none).getD .non) :: gaVs σ a r
  | none :: r => a :: gaVs σ a r
theorem tGa_names {σ : L2.St} {H : Hp} {a : V} : ∀ {r : List (Option Nat)} {Q : List V → Hp → Prop}, (∀ o ∈ r, ∃ i v, o = some i ∧ σ[i]? = some (some v)) → Q (gaVs σ a r) H → tGa X r σ H Q
  | [], Q, _, q => q
  | o :: r, Q, h, q => by
    obtain ⟨i, v, rfl, hv⟩ := h o (.head _)
    refine ⟨v, hv, tGa_names (a := a) (fun o ho => h o (.tail _ ho)) ?_⟩
    have e : gaVs σ a (some i :: r) = v :: gaVs σ a r := by show ((σ[i]?.getD none).getD .non) :: _ = _; rw [hv]; rfl
    rw [e] at q
    exact q
theorem tGa_one {σ : L2.St} {H : Hp} : ∀ {r1 r2 : List (Option Nat)} {Q : List V → Hp → Prop}, (∀ o ∈ r1 ++ r2, ∃ i v, o = some i ∧ σ[i]? = some (some v)) → (∀ l, H l = none → Q (gaVs σ (.ref l) (r1 ++ none :: r2)) (upd H l (.ext (mapP (X.prog, X.w) l [])))) → tGa X (r1 ++ none :: r2) σ H Q
  | [], r2, Q, h, q => fun l nl => tGa_names (a := .ref l) h (q l nl)
  | o :: r1, r2, Q, h, q => by
    obtain ⟨i, v, rfl, hv⟩ := h o (.head _)
    refine ⟨v, hv, tGa_one (fun o ho => h o (.tail _ ho)) fun l nl => ?_⟩
    have z := q l nl
    have e : gaVs σ (.ref l) (some i :: (r1 ++ none :: r2)) = v :: gaVs σ (.ref l) (r1 ++ none :: r2) := by show ((σ[i]?.getD none).getD .non) :: _ = _; rw [hv]; rfl
    rw [List.cons_append, e] at z
    exact z
/-- the slot holds something -/
theorem slot_v {K : PySem.W.Frag} {H : Hp} {σ : L2.St} {ρ : Rho} {φ : Nat → Addr → Prop} {a : XA} {s : Sl} (E : EnvOk K B H σ ρ φ) (h : slOf ρ a = some s) : ∀ i, (a = .o i ∨ a = .r i ∨ a = .b i) → ∃ v, σ[i]? = some (some v) := by
  intro i hi
  rcases hi with rfl | rfl | rfl
  · obtain ⟨ob, y1, _⟩ := slOf_o h
    obtain ⟨x, y2, _⟩ := E.own y1
    exact ⟨_, y2⟩
  · obtain ⟨ob, y1, _⟩ := slOf_r h
    rcases y1 with y1 | y1
    · obtain ⟨x, y2, _⟩ := E.own y1; exact ⟨_, y2⟩
    · have z := E.sl i _ y1
      generalize σ[i]? = w at z ⊢
      cases z with | r _ _ _ => exact ⟨_, rfl⟩
  · obtain ⟨ds, y1, _⟩ := slOf_b h
    rcases y1 with y1 | y1
    · have z := E.sl i _ y1
      generalize σ[i]? = w at z ⊢
      cases z with | b _ _ _ => exact ⟨_, rfl⟩
    · obtain ⟨x, y2, _⟩ := E.own y1; exact ⟨_, y2⟩
theorem gm_vals {K : PySem.W.Frag} {H H1 : Hp} {σ : L2.St} {ρ : Rho} {φ : Nat → Addr → Prop} {l : Addr} {ob : Ob} {sls : List Sl} (E : EnvOk K B H σ ρ φ) (s : Same H H1) : ∀ {gs : List GM} {as : List XA} {sls : List Sl}, gs.all (inRho ρ) = true → gmXs ρ.length ρ gs = some as → slsOf (ρ ++ [.o ob]) as = some sls →
    (∀ o ∈ gs.map gmIx, o = none ∨ ∃ i v, o = some i ∧ σ[i]? = some (some v)) ∧ ArgR K H1 ((σ ++ [none]).set ρ.length (some (.ref l))) (gaVs σ (.ref l) (gs.map gmIx)) as
  | [], as, sls, _, h, _ => by cases h; exact ⟨fun o ho => (List.not_mem_nil ho).elim, .nil⟩
  | g :: gs, as, sls, hin, h, hs => by
    obtain ⟨a, h1, h⟩ := Option.bind_eq_some_iff.mp h
    obtain ⟨as', h2, rfl⟩ := Option.map_eq_some_iff.mp h
    obtain ⟨s0, g1, hs⟩ := Option.bind_eq_some_iff.mp hs
    obtain ⟨ss, g2, _⟩ := Option.map_eq_some_iff.mp hs
    rw [List.all_cons, Bool.and_eq_true] at hin
    obtain ⟨ih1, ih2⟩ := gm_vals (l := l) (ob := ob) (sls := ss) E s hin.2 h2 g2
    have hlen := E.len
    have old : ∀ {i : Nat}, i < ρ.length → ((σ ++ [none]).set ρ.length (some (.ref l)))[i]? = σ[i]? ∧ (ρ ++ [.o ob])[i]? = ρ[i]? := fun {i} hi => ⟨by rw [List.getElem?_set_ne (by omega), List.getElem?_append_left (by omega)], List.getElem?_append_left hi⟩
    have new : ((σ ++ [none]).set ρ.length (some (.ref l)))[ρ.length]? = some (some (.ref l)) := List.getElem?_set_self (by simp [hlen])
    have val : ∀ {i : Nat} {v : V}, σ[i]? = some (some v) → gaVs σ (.ref l) (some i :: gs.map gmIx) = v :: gaVs σ (.ref l) (gs.map gmIx) := fun {i v} hv => by show ((σ[i]?.getD none).getD .non) :: _ = _; rw [hv]; rfl
    have sl0 : ∀ {i : Nat}, i < ρ.length → (a = .o i ∨ a = .r i ∨ a = .b i) → ∃ v, σ[i]? = some (some v) := fun {i} hi ha => by
      refine slot_v (s := s0) E ?_ i ha
      rcases ha with rfl | rfl | rfl
      · simp only [slOf, (old hi).2] at g1 ⊢; exact g1
      · simp only [slOf, (old hi).2] at g1 ⊢; exact g1
      · simp only [slOf, (old hi).2] at g1 ⊢; exact g1
    cases g with
    | o i =>
      cases h1
      have hi : i < ρ.length := of_decide_eq_true hin.1
      obtain ⟨v, hv⟩ := sl0 hi (.inl rfl)
      refine ⟨fun o ho => ?_, ?_⟩
      · rcases List.mem_cons.mp ho with rfl | ho
        · exact .inr ⟨i, v, rfl, hv⟩
        · exact ih1 o ho
      · rw [List.map_cons, show gmIx (.o i) = some i from rfl, val hv]
        exact .o (by rw [(old hi).1]; exact hv) ih2
    | r i =>
      cases h1
      have hi : i < ρ.length := of_decide_eq_true hin.1
      obtain ⟨v, hv⟩ := sl0 hi (.inr (.inl rfl))
      refine ⟨fun o ho => ?_, ?_⟩
      · rcases List.mem_cons.mp ho with rfl | ho
        · exact .inr ⟨i, v, rfl, hv⟩
        · exact ih1 o ho
      · rw [List.map_cons, show gmIx (.r i) = some i from rfl, val hv]
        exact .r (by rw [(old hi).1]; exact hv) ih2
    | b i =>
      cases h1
      have hi : i < ρ.length := of_decide_eq_true hin.1
      obtain ⟨v, hv⟩ := sl0 hi (.inr (.inr rfl))
      refine ⟨fun o ho => ?_, ?_⟩
      · rcases List.mem_cons.mp ho with rfl | ho
        · exact .inr ⟨i, v, rfl, hv⟩
        · exact ih1 o ho
      · rw [List.map_cons, show gmIx (.b i) = some i from rfl, val hv]
        exact .b (by rw [(old hi).1]; exact hv) ih2
    | d i =>
      have hi : i < ρ.length := of_decide_eq_true hin.1
      simp only [gmX] at h1
      split at h1
      · rename_i d e1
        cases h1
        have r := E.sl i _ e1
        generalize hv : σ[i]? = v at r
        cases r with
        | d r _ =>
          refine ⟨fun o ho => ?_, ?_⟩
          · rcases List.mem_cons.mp ho with rfl | ho
            · exact .inr ⟨i, _, rfl, hv⟩
            · exact ih1 o ho
          · rw [List.map_cons, show gmIx (.d i) = some i from rfl, val hv]
            exact .d (r.mono (firm s)) ih2
      · cases h1
    | e =>
      cases h1
      refine ⟨fun o ho => ?_, ?_⟩
      · rcases List.mem_cons.mp ho with rfl | ho
        · exact .inl rfl
        · exact ih1 o ho
      · exact .r new ih2
theorem px_callG {r1 r2 : List (Option Nat)} (tk : Takes X W) (G : FnT X.prog X.w X.K X.mg X.base n x .per fm) (hr : Room n X.A) (hg : Gl X x) (hix : gs.map gmIx = r1 ++ none :: r2) (hno : (r1 ++ r2).all Option.isSome = true) (ha : PA X (e :: es) (tGa X (r1 ++ none :: r2)))
    (hdb : (x == ("__debug__" : Str)) = false := by decide) (he : starEach (e :: es) X.env = (false, eval e X.env) :: starEach es X.env := by rfl) (hpl : (backTo pos (starEach es X.env)).any (·.1) = false := by rfl) : PXm X B W (.Call (.Name x p) (e :: es) [] pos) (xCallG (X.prog, X.w) fm gs) := by
  obtain ⟨f, fd, ps, F, hm, hk, hb⟩ := G.ex
  refine (pe_callS F hr hg hm hk hb (fun σ => passAt tk σ) ha hdb he hpl).weak fun σ H Q ⟨ρ, φ, E, q⟩ => ?_
  unfold xCallG at q
  split at q
  · rename_i hin
    split at q
    · rename_i as q1
      split at q
      · rename_i sls q2 q3
        have nm : ∀ o ∈ r1 ++ r2, ∃ i v, o = some i ∧ σ[i]? = some (some v) := fun o ho => by
          have hs := List.all_eq_true.mp hno o ho
          have hm : o ∈ gs.map gmIx := by
            rw [hix]
            rcases List.mem_append.mp ho with h | h
            · exact List.mem_append.mpr (.inl h)
            · exact List.mem_append.mpr (.inr (.tail _ h))
          rcases (gm_vals (l := 0) (sls := sls) E (Same.refl H) hin q1 q3).1 o hm with z | z
          · rw [z] at hs; cases hs
          · exact z
        refine tGa_one nm fun l nl => ?_
        have s1 : Same H (upd H l (.ext (mapP (X.prog, X.w) l []))) := same_new nl _
        have hlen := E.len
        have E1 : EnvOk X.K B (upd H l (.ext (mapP (X.prog, X.w) l []))) ((σ ++ [none]).set ρ.length (some (.ref l))) ((ρ ++ [Sl.nil]).set ρ.length (.o (.map (X.prog, X.w) []))) (fun j b => (j = ρ.length ∧ b = l) ∨ φ j b) :=
          E.longer.setAs (by rw [List.getElem?_append_right (Nat.le_refl _)]; intro ob z; simp at z) (by simp) s1 nl (OwnRep.map (kvs := []) upd_same MapRep.nil)
        have eρ : (ρ ++ [Sl.nil]).set ρ.length (.o (.map (X.prog, X.w) [])) = ρ ++ [.o (.map (X.prog, X.w) [])] := by
          rw [List.set_append_right _ _ (Nat.le_refl _), Nat.sub_self]; rfl
        rw [eρ] at E1
        have r := (gm_vals (l := l) (ob := .map (X.prog, X.w) []) (sls := sls) E s1 hin q1 q3).2
        rw [hix] at r
        have v1 : Ev H φ (upd H l (.ext (mapP (X.prog, X.w) l []))) (fun j b => (j = ρ.length ∧ b = l) ∨ φ j b) := ⟨fun b o _ h => s1 b o h, fun j b z => z.elim (fun z => .inr (by rw [z.2]; exact nl)) fun z => .inl ⟨j, z⟩⟩
        have hio : ∀ i, ρ.length ≤ i → B.io i = none := fun i hi => by
          cases z : B.io i with
          | none => rfl
          | some a => obtain ⟨_, ob, z2⟩ := E.io i a z; have := (List.getElem?_eq_some_iff.mp z2).1; omega
        have eσ : ((σ ++ [none]).set ρ.length (some (V.ref l))).take ρ.length = σ := by
          rw [List.take_set_of_le (Nat.le_refl _), List.take_append_of_le_length (by omega), ← hlen, List.take_length]
        refine ⟨sls, _, r.argsOk E1 q3 q2, ?_⟩
        cases ef : fm sls with
        | ret d obs =>
          rw [ef] at q
          intro u H' φ' O rv
          obtain ⟨ψ, E', v'⟩ := r.back E1 q3 q2 O
          have E2 := E'.shorter hio
          rw [eσ] at E2
          exact q u H' _ E2 ((v1.trans v').trans ⟨fun b o _ h => h, fun j b z => .inl ⟨j, z.2⟩⟩) rv
        | ex c obs =>
          rw [ef] at q
          intro H' φ' O
          obtain ⟨ψ, E', v'⟩ := r.back E1 q3 q2 O
          have E2 := E'.shorter hio
          rw [eσ] at E2
          exact q H' _ E2 ((v1.trans v').trans ⟨fun b o _ h => h, fun j b z => .inl ⟨j, z.2⟩⟩)
        | stuck => rw [ef] at q; exact q.elim
      · exact q.elim
    · exact q.elim
  · exact q.elim
end
/-! ### a method whose last name has a value of its own -/
structure MtD (P : Program) (w : World) (K : PySem.W.Frag) (mg : Str → Option Value) (base : Heap) (n : Nat) (C m : Str) (dv : PyData) (fm : FM) : Prop where
  ex : ∃ (f : Addr) (fd : FuncData) (ps : List Str) (d : V) (u : Value), FnOk P w K mg base (L2.CX P w) n f fd ps (spM K .per fm) ∧ Meth K (He.ga K C) m f ∧ Binds K fd ps [u] ∧ RelV d u ∧ ∀ H, Rp K H d dv
  cls : Cls K (He.ga K C)
def xEnd (dv : PyData) (ms : MXs) : MXs := fun ρ => match ms ρ with
  | .vals as ρ' => .vals (as ++ [.d dv]) ρ'
  | o => o
theorem ArgR.snoc {K : PySem.W.Frag} {H : Hp} {σ : L2.St} {vs as} (h : ArgR K H σ vs as) {v : V} {d : PyData} (r : Rp K H v d) : ArgR K H σ (vs ++ [v]) (as ++ [.d d]) := by
  induction h with
  | nil => exact .d r .nil
  | d z _ ih => exact .d z ih
  | o z _ ih => exact .o z ih
  | r z _ ih => exact .r z ih
  | b z _ ih => exact .b z ih
section
variable {X : Cx} {B : Bd} {W : WX} {e o : Expr} {es : List Expr} {ms : MXs} {pos p apos : Pos} {y C nm : Str} {n i : Nat} {fm : FM} {dv : PyData}
theorem px_methD {a : XA} {pl : Sem Bool} (hi : a = .o i ∨ a = .r i) (tk : Takes X W) (G : MtD X.prog X.w X.K X.mg X.base n C nm dv fm) (hr : Room n X.A) (hN : X.N[i]? = some y) (ha : PXs X B W (e :: es) ms)
    (hev : MetEv X (.Name y p) nm (e :: es) apos pos pl := by rfl)
    (hv : Vis X.env.scope y := by first | exact Or.inl rfl | exact Or.inr (Or.inl rfl) | exact Or.inr (Or.inr rfl)) (hd : (y == ("__debug__" : Str)) = false := by decide) (hcd : (y == ("__classdict__" : Str)) = false := by decide)
    (hst : starEach (e :: es) X.env = (false, eval e X.env) :: starEach es X.env := by rfl) (hpl : (backTo pos (starEach es X.env)).any (·.1) = false := by rfl) :
    PXm X B W (.Call (.Attribute (.Name y p) nm apos) (e :: es) [] pos) (xMeth C nm a i fm (xEnd dv ms)) := by
  obtain ⟨⟨f, fd, ps, d, u, F, hm, hb, hdu, hdr⟩, c⟩ := G
  refine ⟨fun pins s st H Q I hq => ?_⟩
  obtain ⟨v0, h0, ad, dx, gs, ev, ea, el, q⟩ := xMeth_rd hi hq
  refine PySem.W.methodCall_KW (pl := pl) (thn ((pe_var (i := i) hN hv hd hcd).run pins s st H (fun w H1 => H1 = H ∧ w = v0) I ⟨v0, h0, rfl, rfl⟩) fun ov s1 ⟨w, H1, I1, rw', eH, ew⟩ => ?_) hev
  subst eH ew ev
  have hov : ov = Value.ref ad := rw'
  subst hov
  obtain ⟨ρ, φ, E, q⟩ := q
  refine getmeth_ok I1 ea c hm el (PySem.W.callWith_K (first := [.ref ad]) (h₀ := X.base) I.ok.mod.kin hm.kp (thn (ha.run pos pins s1 st H1 (fun vs H2 => spM X.K .per fm ((.ref ad :: vs) ++ [d]) H2 Q (WE W st)) I1 ⟨ρ, φ, E, ?_⟩) fun us s2 ⟨vs, H2, I2, r, q2⟩ => ⟨I2.kIn, run_fnSD F hr hb (.cons hdu .nil) (passAt tk st) I2 (us := .ref ad :: us) (vs := .ref ad :: vs) (.cons rfl r) q2⟩) hst hpl)
  unfold xEnd at q
  cases e1 : ms ρ with
  | stuck => rw [e1] at q; exact q.elim
  | ex c ρ' => rw [e1] at q; exact q
  | vals as ρ' =>
    rw [e1] at q
    exact fun vs H' φ' E' v' r => q (vs ++ [d]) H' φ' E' v' (r.snoc (hdr H'))
end
end PL

namespace PL
open PySem PySem.Spec PyProof.Rows L2
theorem cx_no {P : Program} {w : World} {H : Hp} {s : Shared} {e : Value} {s' : Shared} (h : L2.CX P w [] H s (fun _ _ _ => False) e s') : False := by
  obtain ⟨_, _, _, _, _, _, _, _, _, _, _, _, z⟩ := h
  exact z
/-- a law by its mirror -/
theorem walk_law {l : PySem.W.OpenLaw} {n k : Nat} {q : Program} {loose : List Str} {XP : (Str → Option Value) → Heap → Prop} {YP : World → Heap → Prop} {d : DefRec} {x : Str} {fm : FM}
    (hn : l.most = some n) (hn2 : n ≤ sizeLine) (hdf : d.params.defaults = []) (hr : Room k callerA)
    (F : ∀ (w : World) (mg : Str → Option Value) (fa : Addr) (h : Heap), YP w h → h.Ns mainGlobals mg → mg d.name = some (.ref fa) →
      ∃ (K : PySem.W.Frag) (fd : FuncData), K.In h ∧ (∀ (s : Shared) (u : Value), BindsTo s fd ⟨[u], []⟩ [(x, u)]) ∧
        ∀ base : Heap, K.In base → base.Ns mainGlobals mg → FnOk l.prog w K mg base (L2.CX l.prog w) k fa fd [x] (spM K .per fm))
    (law : ∀ ns : List Int, ns.length ≤ n → ∃ obs, fm [.b (ns.map .int)] = .ret (.bool true) obs) :
    PySem.W.WalkO q loose XP YP l.row.toRowW d [] (fun f vs => PySem.call f vs) := by
  refine Att.attach_call hn hdf fun w s₀ s₁ mg mb fa o pm cd doc a vs ns G Y ho hd hcd hmg hobj hints hlen hg => ?_
  obtain ⟨K, fd, KX, hb, hF⟩ := F w mg fa _ Y G.T.g hmg
  refine law_call KX G.T.g G.T.b G.T.builtins G.T.nolimit hg hobj hints (Nat.le_trans hlen hn2) hr hF hb (fun H hO hS => ?_) fun H e s' => cx_no
  obtain ⟨obs, e⟩ := law ns hlen
  refine ⟨[.b (ns.map .int)], fun _ _ => False, ?_, ?_⟩
  · have r : Rps K H (ns.map V.int) (ns.map PyData.int) := by
      induction ns with
      | nil => exact .nil
      | cons n ns ih => exact .cons (.int n) (by clear ih hF hb law e hobj hints hlen hS; induction ns with
        | nil => exact .nil
        | cons n ns ih => exact .cons (.int n) ih)
    have ra : RAs K H [false] [.ref a] [.list (ns.map PyData.int)] := .any (.seq hS r) .nil
    exact ra.argsOk
  · rw [e]
    intro v H' φ' O r
    cases r
    rfl
/-- the same, the mirror leans on the world -/
theorem walk_lawW {l : PySem.W.OpenLaw} {n k : Nat} {q : Program} {loose : List Str} {XP : (Str → Option Value) → Heap → Prop} {YP : World → Heap → Prop} {d : DefRec} {x : Str} {fm : World → FM}
    (hn : l.most = some n) (hn2 : n ≤ sizeLine) (hdf : d.params.defaults = []) (hr : Room k callerA)
    (F : ∀ (w : World) (mg : Str → Option Value) (fa : Addr) (h : Heap), YP w h → h.Ns mainGlobals mg → mg d.name = some (.ref fa) →
      ∃ (K : PySem.W.Frag) (fd : FuncData), K.In h ∧ (∀ (s : Shared) (u : Value), BindsTo s fd ⟨[u], []⟩ [(x, u)]) ∧
        ∀ base : Heap, K.In base → base.Ns mainGlobals mg → FnOk l.prog w K mg base (L2.CX l.prog w) k fa fd [x] (spM K .per (fm w)))
    (law : ∀ (w : World) (ns : List Int), ns.length ≤ n → ∃ obs, fm w [.b (ns.map .int)] = .ret (.bool true) obs) :
    PySem.W.WalkO q loose XP YP l.row.toRowW d [] (fun f vs => PySem.call f vs) := by
  refine Att.attach_call hn hdf fun w s₀ s₁ mg mb fa o pm cd doc a vs ns G Y ho hd hcd hmg hobj hints hlen hg => ?_
  obtain ⟨K, fd, KX, hb, hF⟩ := F w mg fa _ Y G.T.g hmg
  refine law_call KX G.T.g G.T.b G.T.builtins G.T.nolimit hg hobj hints (Nat.le_trans hlen hn2) hr hF hb (fun H hO hS => ?_) fun H e s' => cx_no
  obtain ⟨obs, e⟩ := law w ns hlen
  refine ⟨[.b (ns.map .int)], fun _ _ => False, ?_, ?_⟩
  · have r : Rps K H (ns.map V.int) (ns.map PyData.int) := by
      induction ns with
      | nil => exact .nil
      | cons n ns ih => exact .cons (.int n) (by clear ih hF hb law e hobj hints hlen hS; induction ns with
        | nil => exact .nil
        | cons n ns ih => exact .cons (.int n) ih)
    have ra : RAs K H [false] [.ref a] [.list (ns.map PyData.int)] := .any (.seq hS r) .nil
    exact ra.argsOk
  · rw [e]
    intro v H' φ' O r
    cases r
    rfl
end PL

/- PL, the part for a list that holds two own things -/
namespace PL
open PySem PySem.Spec PyProof.Rows L2
/-! ### opened and closed -/
def opn1 (i : Nat) (ρ : Rho) : Option Rho := match ρ[i]? with
  | some (.o (.two a b)) => some (ρ.set i (.o .shl) ++ [.o a, .o b])
  | _ => none
def cls1 (i n : Nat) (ρ : Rho) : Option Rho := match ρ[i]?, ρ[n]?, ρ[n + 1]? with
  | some (.o .shl), some (.o a), some (.o b) => if ρ.length = n + 2 ∧ i < n then some ((ρ.take n).set i (.o (.two a b))) else none
  | _, _, _ => none
theorem app2_at {α : Type} {l : List α} {p q s : α} {j : Nat} (h : (l ++ [p, q])[j]? = some s) : (j < l.length ∧ l[j]? = some s) ∨ (j = l.length ∧ s = p) ∨ (j = l.length + 1 ∧ s = q) := by
  by_cases hj : j < l.length
  · rw [List.getElem?_append_left hj] at h; exact .inl ⟨hj, h⟩
  · rw [List.getElem?_append_right (by omega)] at h
    have hl := (List.getElem?_eq_some_iff.mp h).1
    simp only [List.length_cons, List.length_nil] at hl
    have : j - l.length = 0 ∨ j - l.length = 1 := by omega
    rcases this with z | z
    · rw [z] at h; cases h; exact .inr (.inl ⟨by omega, rfl⟩)
    · rw [z] at h; cases h; exact .inr (.inr ⟨by omega, rfl⟩)
theorem app2_l {α : Type} {l : List α} {p q : α} {j : Nat} (h : j < l.length) : (l ++ [p, q])[j]? = l[j]? := List.getElem?_append_left h
theorem app2_0 {α : Type} {l : List α} {p q : α} {n : Nat} (h : l.length = n) : (l ++ [p, q])[n]? = some p := by rw [List.getElem?_append_right (by omega), show n - l.length = 0 by omega]; rfl
theorem app2_1 {α : Type} {l : List α} {p q : α} {n : Nat} (h : l.length = n) : (l ++ [p, q])[n + 1]? = some q := by rw [List.getElem?_append_right (by omega), show n + 1 - l.length = 1 by omega]; rfl
section
variable {K : PySem.W.Frag} {B : Bd} {H : Hp} {σ : L2.St} {ρ ρ' : Rho} {φ : Nat → Addr → Prop} {i n : Nat}
theorem EnvOk.open1 (h : EnvOk K B H σ ρ φ) (e : opn1 i ρ = some ρ') (hn : ρ.length = n) : ∃ x a b ψ, σ[i]? = some (some (.ref x)) ∧ H x = some (.lst [.ref a, .ref b]) ∧ i < n ∧ ρ'.length = n + 2 ∧
    EnvOk K B H (σ ++ [some (.ref a), some (.ref b)]) ρ' ψ ∧ (∀ j c, ψ j c → ∃ k, φ k c) ∧ ψ i x ∧ ∀ j c, j ≠ i → j < n → φ j c → ψ j c := by
  unfold opn1 at e
  split at e
  · rename_i oa ob h1
    cases e
    subst hn
    have hi : i < ρ.length := (List.getElem?_eq_some_iff.mp h1).1
    have hl := h.len
    obtain ⟨x, hσ, r⟩ := h.own h1
    generalize hfp : φ i = fp at r
    cases r with
    | @two _ a b _ _ fa fb e1 ra rb d n1 n2 =>
      have hls : (ρ.set i (.o .shl)).length = ρ.length := by simp
      have at_i : (fun c => if i = i then c = x else if i = ρ.length then fa c else if i = ρ.length + 1 then fb c else φ i c) = fun c => c = x := by funext c; rw [if_pos rfl]
      have at_n : (fun c => if ρ.length = i then c = x else if ρ.length = ρ.length then fa c else if ρ.length = ρ.length + 1 then fb c else φ ρ.length c) = fa := by funext c; rw [if_neg (by omega), if_pos rfl]
      have at_n1 : (fun c => if ρ.length + 1 = i then c = x else if ρ.length + 1 = ρ.length then fa c else if ρ.length + 1 = ρ.length + 1 then fb c else φ (ρ.length + 1) c) = fb := by funext c; rw [if_neg (by omega), if_neg (by omega), if_pos rfl]
      have at_j : ∀ {j : Nat}, j ≠ i → j < ρ.length → (fun c => if j = i then c = x else if j = ρ.length then fa c else if j = ρ.length + 1 then fb c else φ j c) = φ j := fun {j} h1 h2 => by funext c; rw [if_neg h1, if_neg (by omega), if_neg (by omega)]
      have all : ∀ j c, (if j = i then c = x else if j = ρ.length then fa c else if j = ρ.length + 1 then fb c else φ j c) → ∃ k, φ k c := fun j c z => by
        by_cases j1 : j = i
        · rw [if_pos j1] at z; exact ⟨i, by rw [hfp]; exact .inl z⟩
        rw [if_neg j1] at z
        by_cases j2 : j = ρ.length
        · rw [if_pos j2] at z; exact ⟨i, by rw [hfp]; exact .inr (.inl z)⟩
        rw [if_neg j2] at z
        by_cases j3 : j = ρ.length + 1
        · rw [if_pos j3] at z; exact ⟨i, by rw [hfp]; exact .inr (.inr z)⟩
        rw [if_neg j3] at z
        exact ⟨j, z⟩
      refine ⟨x, a, b, fun j c => if j = i then c = x else if j = ρ.length then fa c else if j = ρ.length + 1 then fb c else φ j c, hσ, e1, hi, by simp, ⟨by simp [hl], fun j s q => ?_, fun j q c z => ?_, fun j k c zj zk => ?_, h.frm, h.frz, fun j c z => ?_, fun j y q => ?_, fun j c q => ?_⟩, all, (by show (if i = i then x = x else _); rw [if_pos rfl]), fun j c h1 h2 z => by show (if j = i then c = x else if j = ρ.length then fa c else if j = ρ.length + 1 then fb c else φ j c); rw [if_neg h1, if_neg (by omega), if_neg (by omega)]; exact z⟩
      · rcases app2_at q with ⟨hj, q⟩ | ⟨ej, qs⟩ | ⟨ej, qs⟩
        · rw [hls] at hj
          rw [app2_l (by omega)]
          by_cases j1 : j = i
          · subst j1
            rw [List.getElem?_set_self hi] at q
            cases q
            rw [hσ, at_i]
            exact .o (.shl e1)
          · rw [List.getElem?_set_ne (Ne.symm j1)] at q
            rw [at_j j1 hj]
            exact (h.sl j s q).less fun c ⟨k, z⟩ => all k c z
        · rw [hls] at ej
          subst ej
          subst qs
          rw [app2_0 hl, at_n]
          exact .o ra
        · rw [hls] at ej
          subst ej
          subst qs
          rw [app2_1 hl, at_n1]
          exact .o rb
      · have hj : ρ.length + 2 ≤ j := by rw [List.getElem?_eq_none_iff] at q; simpa using q
        rw [if_neg (by omega), if_neg (by omega), if_neg (by omega)] at z
        exact h.out j (List.getElem?_eq_none_iff.mpr (by omega)) c z
      · have out : ∀ {j : Nat}, φ j c → j < ρ.length := fun {j} z => Nat.lt_of_not_le fun y => h.out j (List.getElem?_eq_none_iff.mpr y) c z
        have own : c = x ∨ fa c ∨ fb c → ∀ {j : Nat}, j ≠ i → ¬ φ j c := fun z {j} nj y => nj (h.dis j i c y (by rw [hfp]; exact z))
        have key : ∀ {j : Nat}, (if j = i then c = x else if j = ρ.length then fa c else if j = ρ.length + 1 then fb c else φ j c) → (j = i ∧ c = x) ∨ (j = ρ.length ∧ fa c) ∨ (j = ρ.length + 1 ∧ fb c) ∨ (j ≠ i ∧ φ j c) := fun {j} z => by
          by_cases j1 : j = i
          · rw [if_pos j1] at z; exact .inl ⟨j1, z⟩
          rw [if_neg j1] at z
          by_cases j2 : j = ρ.length
          · rw [if_pos j2] at z; exact .inr (.inl ⟨j2, z⟩)
          rw [if_neg j2] at z
          by_cases j3 : j = ρ.length + 1
          · rw [if_pos j3] at z; exact .inr (.inr (.inl ⟨j3, z⟩))
          rw [if_neg j3] at z
          exact .inr (.inr (.inr ⟨j1, z⟩))
        rcases key zj with ⟨a1, a2⟩ | ⟨a1, a2⟩ | ⟨a1, a2⟩ | ⟨a1, a2⟩ <;> rcases key zk with ⟨b1, b2⟩ | ⟨b1, b2⟩ | ⟨b1, b2⟩ | ⟨b1, b2⟩
        · rw [a1, b1]
        · rw [a2] at b2; exact absurd b2 n1
        · rw [a2] at b2; exact absurd b2 n2
        · exact absurd b2 (own (.inl a2) b1)
        · rw [b2] at a2; exact absurd a2 n1
        · rw [a1, b1]
        · exact absurd b2 (d c a2)
        · exact absurd b2 (own (.inr (.inl a2)) b1)
        · rw [b2] at a2; exact absurd a2 n2
        · exact absurd a2 (d c b2)
        · rw [a1, b1]
        · exact absurd b2 (own (.inr (.inr a2)) b1)
        · exact absurd a2 (own (.inl b2) a1)
        · exact absurd a2 (own (.inr (.inl b2)) a1)
        · exact absurd a2 (own (.inr (.inr b2)) a1)
        · exact h.dis j k c a2 b2
      · obtain ⟨k, z⟩ := all j c z
        exact h.sub k c z
      · obtain ⟨q1, o, q2⟩ := h.io j y q
        have hj := (List.getElem?_eq_some_iff.mp q2).1
        rw [app2_l (by omega), app2_l (by rw [hls]; exact hj)]
        refine ⟨q1, ?_⟩
        by_cases j1 : j = i
        · subst j1; exact ⟨_, List.getElem?_set_self hi⟩
        · exact ⟨o, by rw [List.getElem?_set_ne (Ne.symm j1)]; exact q2⟩
      · rcases app2_at q with ⟨hj, q⟩ | ⟨_, q⟩ | ⟨_, q⟩
        · rw [hls] at hj
          rw [app2_l (by omega)]
          by_cases j1 : j = i
          · subst j1; rw [List.getElem?_set_self hi] at q; cases q
          · rw [List.getElem?_set_ne (Ne.symm j1)] at q; exact h.xo j c q
        · cases q
        · cases q
  · cases e
theorem EnvOk.close1 {x a b : Addr} (h : EnvOk K B H (σ ++ [some (.ref a), some (.ref b)]) ρ φ) (hn : σ.length = n) (e : cls1 i n ρ = some ρ') (hσ : σ[i]? = some (some (.ref x))) (hx : H x = some (.lst [.ref a, .ref b])) (hio : ∀ j, n ≤ j → B.io j = none) :
    ∃ ψ, EnvOk K B H σ ρ' ψ ∧ ρ'.length = n ∧ ∀ j c, ψ j c → ∃ k, φ k c := by
  unfold cls1 at e
  split at e
  · rename_i oa ob h1 h2 h3
    split at e
    · rename_i hc
      obtain ⟨hl, hi⟩ := hc
      cases e
      have hlt : (ρ.take n).length = n := by rw [List.length_take]; omega
      obtain ⟨x', g1, r1⟩ := h.own h1
      obtain ⟨a', g2, r2⟩ := h.own h2
      obtain ⟨b', g3, r3⟩ := h.own h3
      rw [app2_l (by omega), hσ] at g1
      cases g1
      rw [app2_0 hn] at g2
      cases g2
      rw [app2_1 hn] at g3
      cases g3
      have hφ : φ i x := by generalize hfp : φ i = fp at r1; cases r1 with | shl _ => rfl
      have old : ∀ {j : Nat}, j ≠ i → j < n → ((ρ.take n).set i (.o (.two oa ob)))[j]? = ρ[j]? := fun {j} h1 h2 => by rw [List.getElem?_set_ne (Ne.symm h1), List.getElem?_take_of_lt h2]
      have all : ∀ j c, (if j = i then c = x ∨ φ n c ∨ φ (n + 1) c else j < n ∧ φ j c) → ∃ k, φ k c := fun j c z => by
        by_cases j1 : j = i
        · rw [if_pos j1] at z
          rcases z with z | z | z
          · subst z; exact ⟨i, hφ⟩
          · exact ⟨_, z⟩
          · exact ⟨_, z⟩
        · rw [if_neg j1] at z; exact ⟨j, z.2⟩
      have lt : ∀ {j : Nat} {s : Sl}, ((ρ.take n).set i (.o (.two oa ob)))[j]? = some s → j < n := fun {j s} q => by
        have := (List.getElem?_eq_some_iff.mp q).1
        rw [List.length_set, hlt] at this
        exact this
      refine ⟨fun j c => if j = i then c = x ∨ φ n c ∨ φ (n + 1) c else j < n ∧ φ j c, ⟨by rw [List.length_set, hlt]; exact hn, fun j s q => ?_, fun j q c z => ?_, fun j k c zj zk => ?_, h.frm, h.frz, fun j c z => ?_, fun j y q => ?_, fun j c q => ?_⟩, by rw [List.length_set, hlt], all⟩
      · have hj := lt q
        by_cases j1 : j = i
        · subst j1
          rw [List.getElem?_set_self (by omega)] at q
          cases q
          have z : (fun c => if j = j then c = x ∨ φ n c ∨ φ (n + 1) c else j < n ∧ φ j c) = fun c => c = x ∨ φ n c ∨ φ (n + 1) c := by funext c; rw [if_pos rfl]
          rw [hσ, z]
          exact .o (.two hx r2 r3 (fun c z1 z2 => by have := h.dis _ _ c z1 z2; omega) (fun z => by have := h.dis _ _ x hφ z; omega) fun z => by have := h.dis _ _ x hφ z; omega)
        · rw [old j1 hj] at q
          have z := h.sl j s q
          rw [app2_l (by omega)] at z
          have zj : (fun c => if j = i then c = x ∨ φ n c ∨ φ (n + 1) c else j < n ∧ φ j c) = φ j := by funext c; rw [if_neg j1]; exact propext ⟨fun z => z.2, fun z => ⟨hj, z⟩⟩
          rw [zj]
          exact z.less fun c ⟨k, z⟩ => all k c z
      · have hj : n ≤ j := by rw [List.getElem?_eq_none_iff, List.length_set, hlt] at q; exact q
        rw [if_neg (by omega)] at z
        omega
      · have key : ∀ {j : Nat}, (if j = i then c = x ∨ φ n c ∨ φ (n + 1) c else j < n ∧ φ j c) → (j = i ∧ ∃ k, φ k c ∧ (k = i ∨ k = n ∨ k = n + 1)) ∨ (j ≠ i ∧ j < n ∧ φ j c) := fun {j} z => by
          by_cases j1 : j = i
          · rw [if_pos j1] at z
            rcases z with z | z | z
            · subst z; exact .inl ⟨j1, i, hφ, .inl rfl⟩
            · exact .inl ⟨j1, _, z, .inr (.inl rfl)⟩
            · exact .inl ⟨j1, _, z, .inr (.inr rfl)⟩
          · rw [if_neg j1] at z; exact .inr ⟨j1, z⟩
        rcases key zj with ⟨a1, l, a2, a3⟩ | ⟨a1, a2, a3⟩ <;> rcases key zk with ⟨b1, l2, b2, b3⟩ | ⟨b1, b2, b3⟩
        · rw [a1, b1]
        · have := h.dis _ _ c a2 b3; omega
        · have := h.dis _ _ c a3 b2; omega
        · exact h.dis _ _ c a3 b3
      · obtain ⟨k, z⟩ := all j c z
        exact h.sub k c z
      · have hj : j < n := Nat.lt_of_not_le fun z => by rw [hio j z] at q; cases q
        obtain ⟨q1, o, q2⟩ := h.io j y q
        rw [app2_l (by omega)] at q1
        refine ⟨q1, ?_⟩
        by_cases j1 : j = i
        · subst j1; exact ⟨_, List.getElem?_set_self (by omega)⟩
        · exact ⟨o, by rw [old j1 hj]; exact q2⟩
      · have hj := lt q
        by_cases j1 : j = i
        · subst j1; rw [List.getElem?_set_self (by omega)] at q; cases q
        · rw [old j1 hj] at q
          have z := h.xo j c q
          rw [app2_l (by omega)] at z
          exact z
    · cases e
  · cases e
end
/-! ### items of such lists -/
def twoAt (ρ : Rho) (i : Nat) : Option (Ob × Ob) := match ρ[i]? with
  | some (.o (.two a b)) => some (a, b)
  | _ => none
def mIdx (mj : ME) (ρ : Rho) : Option Int := match mj ρ with
  | some (.int j) => if j = 0 ∨ j = 1 then some j else none
  | _ => none
def itm {α : Type} (j : Int) (a b : α) : α := if j = 0 then a else b
theorem mIdx_some {mj : ME} {ρ : Rho} {j : Int} (h : mIdx mj ρ = some j) : mj ρ = some (.int j) ∧ (j = 0 ∨ j = 1) := by
  unfold mIdx at h
  split at h
  · rename_i j' e
    split at h
    · rename_i hc; cases h; exact ⟨e, hc⟩
    · cases h
  · cases h
theorem atI_two {a b : Addr} {j : Int} (h : j = 0 ∨ j = 1) : atI [V.ref a, V.ref b] j = some (.ref (itm j a b)) := by
  rcases h with rfl | rfl <;> rfl
section
variable {K : PySem.W.Frag} {xo : XO} {H : Hp} {σ : L2.St} {ρ : Rho} {i : Nat} {p : Ob × Ob} {mj : ME} {j : Int}
theorem two_rd (R : RdOk K xo H σ ρ) (e : twoAt ρ i = some p) : ∃ x a b fa fb, σ[i]? = some (some (.ref x)) ∧ H x = some (.lst [.ref a, .ref b]) ∧ OwnRep K H fa a p.1 ∧ OwnRep K H fb b p.2 := by
  unfold twoAt at e
  split at e
  · rename_i oa ob h1
    cases e
    have r := R.rd i _ h1
    generalize σ[i]? = w at r ⊢
    cases r with
    | o r => cases r with | two h1 h2 h3 _ _ _ => exact ⟨_, _, _, _, _, rfl, h1, h2, h3⟩
  · cases e
theorem ix_two {k : Kd} {Q : VK} (R : RdOk K xo H σ ρ) (e : twoAt ρ i = some p) (hj : mIdx mj ρ = some j) (z : ∀ x a b fa fb H', Same H H' → σ[i]? = some (some (.ref x)) → H' x = some (.lst [.ref a, .ref b]) → OwnRep K H' fa a p.1 → OwnRep K H' fb b p.2 → Q (.ref (itm j a b)) H') : tOp (rIx K) (tVar i) (tE K xo k mj) σ H Q := by
  obtain ⟨x, a, b, fa, fb, h1, h2, h3, h4⟩ := two_rd R e
  obtain ⟨hm, hc⟩ := mIdx_some hj
  refine ⟨_, h1, ρ, _, R, hm, fun v H' s r => ?_⟩
  have ev := r.toAny.int
  subst ev
  obtain ⟨x', a', b', fa', fb', g1, g2, g3, g4⟩ := two_rd (R.mono s) e
  rw [h1] at g1
  cases g1
  exact .inl ⟨x, _, j, _, rfl, rfl, SqL.of g2, atI_two hc, z x a' b' fa' fb' H' s h1 g2 g3 g4⟩
end
/-! ### a call that is handed items of such lists -/
structure GAt (H : Hp) (σ : L2.St) (is : List Nat) (n g : Nat) (v : V) : Prop where
  ex : ∃ (s i : Nat) (j : Int) (x a b : Addr), is[s]? = some i ∧ (j = 0 ∨ j = 1) ∧ g = n + 2 * s + j.toNat ∧ σ[i]? = some (some (.ref x)) ∧ H x = some (.lst [.ref a, .ref b]) ∧ v = .ref (itm j a b)
theorem GAt.mono {H H' : Hp} {σ : L2.St} {is : List Nat} {n g : Nat} {v : V} (h : GAt H σ is n g v) (s : Same H H') : GAt H' σ is n g v := by
  obtain ⟨t, i, j, x, a, b, h1, h2, h3, h4, h5, h6⟩ := h.ex
  exact ⟨t, i, j, x, a, b, h1, h2, h3, h4, s _ _ h5, h6⟩
inductive GR (K : PySem.W.Frag) (H : Hp) (σ : L2.St) (is : List Nat) (n : Nat) : List V → List XA → Prop
  | nil : GR K H σ is n [] []
  | d {v : V} {d : PyData} {vs as} : Rp K H v d → GR K H σ is n vs as → GR K H σ is n (v :: vs) (.d d :: as)
  | o {v : V} {g : Nat} {vs as} : GAt H σ is n g v → GR K H σ is n vs as → GR K H σ is n (v :: vs) (.o g :: as)
  | r {v : V} {g : Nat} {vs as} : GAt H σ is n g v → GR K H σ is n vs as → GR K H σ is n (v :: vs) (.r g :: as)
  | b {v : V} {g : Nat} {vs as} : GAt H σ is n g v → GR K H σ is n vs as → GR K H σ is n (v :: vs) (.b g :: as)
theorem GR.argR {K : PySem.W.Frag} {H : Hp} {σ σ' : L2.St} {is : List Nat} {n : Nat} {vs as} (h : GR K H σ is n vs as) (k : ∀ g v, GAt H σ is n g v → σ'[g]? = some (some v)) : ArgR K H σ' vs as := by
  induction h with
  | nil => exact .nil
  | d r _ ih => exact .d r ih
  | o g _ ih => exact .o (k _ _ g) ih
  | r g _ ih => exact .r (k _ _ g) ih
  | b g _ ih => exact .b (k _ _ g) ih
theorem GR.ge {K : PySem.W.Frag} {H : Hp} {σ : L2.St} {is : List Nat} {n : Nat} {vs as} (h : GR K H σ is n vs as) : ∀ (j g : Nat), as[j]? = some (.o g) → n ≤ g := by
  induction h with
  | nil => exact fun j g q => by simp at q
  | o z _ ih =>
    intro j g q
    cases j with
    | zero => simp at q; subst q; obtain ⟨_, _, _, _, _, _, _, _, e, _⟩ := z.ex; omega
    | succ j => exact ih j g (by simpa using q)
  | _ =>
    rename_i ih
    intro j g q
    cases j with
    | zero => simp at q
    | succ j => exact ih j g (by simpa using q)
abbrev MP := Rho → Option (List XA)
def tP (K : PySem.W.Frag) (xo : XO) (is : List Nat) (m : MP) : TA := fun σ H Q => ∃ ρ as, RdOk K xo H σ ρ ∧ m ρ = some as ∧ ∀ vs H', Same H H' → GR K H' σ is ρ.length vs as → Q vs H'
def mpNil : MP := fun _ => some []
def mpD (m : ME) (ms : MP) : MP := fun ρ => (m ρ).bind fun d => (ms ρ).map (.d d :: ·)
def mpO (s i : Nat) (mj : ME) (ms : MP) : MP := fun ρ => (twoAt ρ i).bind fun _ => (mIdx mj ρ).bind fun j => (ms ρ).map (.o (ρ.length + 2 * s + j.toNat) :: ·)
def mpR (s i : Nat) (mj : ME) (ms : MP) : MP := fun ρ => (twoAt ρ i).bind fun _ => (mIdx mj ρ).bind fun j => (ms ρ).map (.r (ρ.length + 2 * s + j.toNat) :: ·)
def mpB (s i : Nat) (mj : ME) (ms : MP) : MP := fun ρ => (twoAt ρ i).bind fun _ => (mIdx mj ρ).bind fun j => (ms ρ).map (.b (ρ.length + 2 * s + j.toNat) :: ·)
section
variable {X : Cx} {B : Bd} {W : WX} {xo : XO} {e b : Expr} {es : List Expr} {m mj : ME} {ms : MP} {pos p p2 : Pos} {x y : Str} {n i s : Nat} {fm : FM} {is : List Nat} {k : Kd}
theorem ppa_nil : PA X [] (tP X.K xo is mpNil) := pa_nil.weak fun σ H Q ⟨ρ, as, R, q, z⟩ => by
  cases q
  exact z _ _ (Same.refl H) .nil
theorem ppa_d (ha : PEm X xo .per e m) (hr : PA X es (tP X.K xo is ms)) (hs : starEach (e :: es) X.env = (false, eval e X.env) :: starEach es X.env := by rfl) : PA X (e :: es) (tP X.K xo is (mpD m ms)) := (pa_cons ha hr hs).weak fun σ H Q ⟨ρ, as, R, q, z⟩ => by
  obtain ⟨d, q1, q⟩ := Option.bind_eq_some_iff.mp q
  obtain ⟨ss, q2, rfl⟩ := Option.map_eq_some_iff.mp q
  exact ⟨ρ, d, R, q1, fun v H1 s1 r1 => ⟨ρ, ss, R.mono s1, q2, fun vs H2 s2 r2 => z _ _ (s1.trans s2) (.d (Rp.mono (firm s2) r1) r2)⟩⟩
theorem ppa_o (his : is[s]? = some i) (hN : X.N[i]? = some y) (hb : PEm X xo k b mj) (hr : PA X es (tP X.K xo is ms)) (hsub : PlainIx b := by intro _ _; rfl) (hv : Vis X.env.scope y := by first | exact Or.inl rfl | exact Or.inr (Or.inl rfl) | exact Or.inr (Or.inr rfl)) (hd : (y == ("__debug__" : Str)) = false := by decide) (hcd : (y == ("__classdict__" : Str)) = false := by decide)
    (hs : starEach (.Subscript (.Name y p) b p2 :: es) X.env = (false, eval (.Subscript (.Name y p) b p2) X.env) :: starEach es X.env := by rfl) : PA X (.Subscript (.Name y p) b p2 :: es) (tP X.K xo is (mpO s i mj ms)) := (pa_cons (pe_ix ix_seq (pe_var (i := i) hN hv hd hcd) hb hsub) hr hs).weak fun σ H Q ⟨ρ, as, R, q, z⟩ => by
  obtain ⟨pr, q1, q⟩ := Option.bind_eq_some_iff.mp q
  obtain ⟨j, q2, q⟩ := Option.bind_eq_some_iff.mp q
  obtain ⟨ss, q3, rfl⟩ := Option.map_eq_some_iff.mp q
  exact ix_two R q1 q2 fun x a b fa fb H1 s1 g1 g2 _ _ => ⟨ρ, ss, R.mono s1, q3, fun vs H2 s2 r2 => z _ _ (s1.trans s2) (.o ⟨s, i, j, x, a, b, his, (mIdx_some q2).2, rfl, g1, s2 _ _ g2, rfl⟩ r2)⟩
theorem ppa_r (his : is[s]? = some i) (hN : X.N[i]? = some y) (hb : PEm X xo k b mj) (hr : PA X es (tP X.K xo is ms)) (hsub : PlainIx b := by intro _ _; rfl) (hv : Vis X.env.scope y := by first | exact Or.inl rfl | exact Or.inr (Or.inl rfl) | exact Or.inr (Or.inr rfl)) (hd : (y == ("__debug__" : Str)) = false := by decide) (hcd : (y == ("__classdict__" : Str)) = false := by decide)
    (hs : starEach (.Subscript (.Name y p) b p2 :: es) X.env = (false, eval (.Subscript (.Name y p) b p2) X.env) :: starEach es X.env := by rfl) : PA X (.Subscript (.Name y p) b p2 :: es) (tP X.K xo is (mpR s i mj ms)) := (pa_cons (pe_ix ix_seq (pe_var (i := i) hN hv hd hcd) hb hsub) hr hs).weak fun σ H Q ⟨ρ, as, R, q, z⟩ => by
  obtain ⟨pr, q1, q⟩ := Option.bind_eq_some_iff.mp q
  obtain ⟨j, q2, q⟩ := Option.bind_eq_some_iff.mp q
  obtain ⟨ss, q3, rfl⟩ := Option.map_eq_some_iff.mp q
  exact ix_two R q1 q2 fun x a b fa fb H1 s1 g1 g2 _ _ => ⟨ρ, ss, R.mono s1, q3, fun vs H2 s2 r2 => z _ _ (s1.trans s2) (.r ⟨s, i, j, x, a, b, his, (mIdx_some q2).2, rfl, g1, s2 _ _ g2, rfl⟩ r2)⟩
theorem ppa_b (his : is[s]? = some i) (hN : X.N[i]? = some y) (hb : PEm X xo k b mj) (hr : PA X es (tP X.K xo is ms)) (hsub : PlainIx b := by intro _ _; rfl) (hv : Vis X.env.scope y := by first | exact Or.inl rfl | exact Or.inr (Or.inl rfl) | exact Or.inr (Or.inr rfl)) (hd : (y == ("__debug__" : Str)) = false := by decide) (hcd : (y == ("__classdict__" : Str)) = false := by decide)
    (hs : starEach (.Subscript (.Name y p) b p2 :: es) X.env = (false, eval (.Subscript (.Name y p) b p2) X.env) :: starEach es X.env := by rfl) : PA X (.Subscript (.Name y p) b p2 :: es) (tP X.K xo is (mpB s i mj ms)) := (pa_cons (pe_ix ix_seq (pe_var (i := i) hN hv hd hcd) hb hsub) hr hs).weak fun σ H Q ⟨ρ, as, R, q, z⟩ => by
  obtain ⟨pr, q1, q⟩ := Option.bind_eq_some_iff.mp q
  obtain ⟨j, q2, q⟩ := Option.bind_eq_some_iff.mp q
  obtain ⟨ss, q3, rfl⟩ := Option.map_eq_some_iff.mp q
  exact ix_two R q1 q2 fun x a b fa fb H1 s1 g1 g2 _ _ => ⟨ρ, ss, R.mono s1, q3, fun vs H2 s2 r2 => z _ _ (s1.trans s2) (.b ⟨s, i, j, x, a, b, his, (mIdx_some q2).2, rfl, g1, s2 _ _ g2, rfl⟩ r2)⟩
end
def opn3 (i0 i1 i2 : Nat) (ρ : Rho) : Option Rho := if i0 < ρ.length ∧ i1 < ρ.length ∧ i2 < ρ.length then (opn1 i0 ρ).bind fun ρ => (opn1 i1 ρ).bind (opn1 i2) else none
def cls3 (i0 i1 i2 n : Nat) (ρ : Rho) : Option Rho := (cls1 i2 (n + 4) ρ).bind fun ρ => (cls1 i1 (n + 2) ρ).bind (cls1 i0 n)
def clsX (i0 i1 i2 n : Nat) : XOut → XOut
  | .val d ρ => match cls3 i0 i1 i2 n ρ with
    | some ρ' => .val d ρ'
    | none => .stuck
  | .ex c ρ => match cls3 i0 i1 i2 n ρ with
    | some ρ' => .ex c ρ'
    | none => .stuck
  | .stuck => .stuck
def xCallP (i0 i1 i2 : Nat) (fm : FM) (mp : MP) : MX := fun ρ => match mp ρ, opn3 i0 i1 i2 ρ with
  | some as, some ρ' => (match okA as, slsOf ρ' as with
    | true, some sls => clsX i0 i1 i2 ρ.length (xFin as ρ' (fm sls))
    | _, _ => .stuck)
  | _, _ => .stuck
section
variable {X : Cx} {B : Bd} {W : WX} {e : Expr} {es : List Expr} {ms : MP} {pos p : Pos} {x : Str} {n i0 i1 i2 : Nat} {fm : FM}
theorem px_callP (h01 : i0 ≠ i1) (h02 : i0 ≠ i2) (h12 : i1 ≠ i2) (tk : Takes X W) (G : FnT X.prog X.w X.K X.mg X.base n x .per fm) (hr : Room n X.A) (hg : Gl X x) (ha : PA X (e :: es) (tP X.K B.xo [i0, i1, i2] ms)) (hdb : (x == ("__debug__" : Str)) = false := by decide)
    (he : starEach (e :: es) X.env = (false, eval e X.env) :: starEach es X.env := by rfl) (hpl : (backTo pos (starEach es X.env)).any (·.1) = false := by rfl) : PXm X B W (.Call (.Name x p) (e :: es) [] pos) (xCallP i0 i1 i2 fm ms) := by
  obtain ⟨f, fd, ps, F, hm, hk, hb⟩ := G.ex
  refine (pe_callS F hr hg hm hk hb (fun σ => passAt tk σ) ha hdb he hpl).weak fun σ H Q ⟨ρ, φ, E, q⟩ => ?_
  unfold xCallP at q
  split at q
  · rename_i as ρ3 q1 q2
    split at q
    · rename_i sls q3 q4
      refine ⟨ρ, as, E.rd, q1, fun vs H1 s1 G => ?_⟩
      have E0 := E.same s1
      have hlen := E.len
      unfold opn3 at q2
      split at q2
      · rename_i hlt
        obtain ⟨lt0, lt1, lt2⟩ := hlt
        obtain ⟨ρ1, o1, q2⟩ := Option.bind_eq_some_iff.mp q2
        obtain ⟨ρ2, o2, o3⟩ := Option.bind_eq_some_iff.mp q2
        obtain ⟨x0, a0, b0, ψ0, s0, t0, _, l1, E1, all0, w0, k0⟩ := E0.open1 o1 rfl
        obtain ⟨x1, a1, b1, ψ1, s1', t1, _, l2, E2, all1, w1, k1⟩ := E1.open1 o2 l1
        obtain ⟨x2, a2, b2, ψ2, s2', t2, _, l3, E3, all2, w2, k2⟩ := E2.open1 o3 l2
        have u1 : σ[i1]? = some (some (.ref x1)) := by rw [app2_l (by omega)] at s1'; exact s1'
        have u2 : σ[i2]? = some (some (.ref x2)) := by rw [app2_l (by simp; omega), app2_l (by omega)] at s2'; exact s2'
        have hn1 : (σ ++ [some (V.ref a0), some (V.ref b0)]).length = ρ.length + 2 := by simp [hlen]
        have hn2 : (σ ++ [some (V.ref a0), some (V.ref b0)] ++ [some (V.ref a1), some (V.ref b1)]).length = ρ.length + 4 := by simp [hlen]
        have r : ArgR X.K H1 (σ ++ [some (.ref a0), some (.ref b0)] ++ [some (.ref a1), some (.ref b1)] ++ [some (.ref a2), some (.ref b2)]) vs as := G.argR fun g v z => by
          obtain ⟨s, i, j, y, a, b, g1, g2, g3, g4, g5, g6⟩ := z.ex
          have hs : s < 3 := (List.getElem?_eq_some_iff.mp g1).1
          have pick : ∀ {i' : Nat} {y' a' b' : Addr}, i = i' → σ[i']? = some (some (.ref y')) → H1 y' = some (.lst [.ref a', .ref b']) → a = a' ∧ b = b' := fun {i' y' a' b'} e1 e2 e3 => by
            subst e1
            rw [e2] at g4
            cases g4
            rw [e3] at g5
            cases g5
            exact ⟨rfl, rfl⟩
          have hs' : s = 0 ∨ s = 1 ∨ s = 2 := by omega
          rcases hs' with rfl | rfl | rfl
          · cases g1
            obtain ⟨rfl, rfl⟩ := pick rfl s0 t0
            rw [app2_l (by rw [hn2]; rcases g2 with rfl | rfl <;> simp at g3 <;> omega), app2_l (by rw [hn1]; rcases g2 with rfl | rfl <;> simp at g3 <;> omega)]
            rcases g2 with rfl | rfl
            · subst g3; subst g6; exact app2_0 hlen
            · subst g3; subst g6; exact app2_1 hlen
          · cases g1
            obtain ⟨rfl, rfl⟩ := pick rfl u1 t1
            rw [app2_l (by rw [hn2]; rcases g2 with rfl | rfl <;> simp at g3 <;> omega)]
            rcases g2 with rfl | rfl
            · subst g3; subst g6; exact app2_0 hn1
            · subst g3; subst g6; exact app2_1 hn1
          · cases g1
            obtain ⟨rfl, rfl⟩ := pick rfl u2 t2
            rcases g2 with rfl | rfl
            · subst g3; subst g6; exact app2_0 hn2
            · subst g3; subst g6; exact app2_1 hn2
        have hio : ∀ j, ρ.length ≤ j → B.io j = none := fun j hj => by
          cases z : B.io j with
          | none => rfl
          | some a => obtain ⟨_, ob, z2⟩ := E.io j a z; have := (List.getElem?_eq_some_iff.mp z2).1; omega
        -- the three lists stand
        have own0 : ψ2 i0 x0 := k2 _ _ h02 (by omega) (k1 _ _ h01 (by omega) w0)
        have own1 : ψ2 i1 x1 := k2 _ _ h12 (by omega) w1
        have stay : ∀ {H' : Hp} {obs : List Ob} {φ' : Nat → Addr → Prop} {i : Nat} {y : Addr} {o : HO}, OutOk X.K H1 vs sls (phiOf as ψ2) H' obs φ' → ψ2 i y → i < ρ.length → H1 y = some o → H' y = some o := fun {H' obs φ' i y o} O w hi ho => O.ev.st y o (fun ⟨j, g, z1, z2⟩ => by
          have := G.ge j g z1
          have := E3.dis _ _ y w z2
          omega) ho
        have fin : ∀ {H' : Hp} {ρ4 ρ5 : Rho} {ψ : Nat → Addr → Prop}, H' x0 = some (.lst [.ref a0, .ref b0]) → H' x1 = some (.lst [.ref a1, .ref b1]) → H' x2 = some (.lst [.ref a2, .ref b2]) → EnvOk X.K B H' (σ ++ [some (.ref a0), some (.ref b0)] ++ [some (.ref a1), some (.ref b1)] ++ [some (.ref a2), some (.ref b2)]) ρ4 ψ → Ev H1 ψ2 H' ψ → cls3 i0 i1 i2 ρ.length ρ4 = some ρ5 → ∃ χ, EnvOk X.K B H' σ ρ5 χ ∧ Ev H φ H' χ := fun {H' ρ4 ρ5 ψ} y0 y1 y2 E4 v4 c => by
          obtain ⟨ρa, c1, c⟩ := Option.bind_eq_some_iff.mp c
          obtain ⟨ρb, c2, c3⟩ := Option.bind_eq_some_iff.mp c
          obtain ⟨χ1, F1, _, d1⟩ := E4.close1 hn2 c1 s2' y2 fun j hj => hio j (by omega)
          obtain ⟨χ2, F2, _, d2⟩ := F1.close1 hn1 c2 s1' y1 fun j hj => hio j (by omega)
          obtain ⟨χ3, F3, _, d3⟩ := F2.close1 hlen c3 s0 y0 hio
          have up : ∀ b, (∃ j, ψ2 j b) → ∃ j, φ j b := fun b ⟨j, z⟩ => by
            obtain ⟨j1, z1⟩ := all2 j b z
            obtain ⟨j2, z2⟩ := all1 j1 b z1
            exact all0 j2 b z2
          refine ⟨χ3, F3, ⟨fun b o nb z => v4.st b o (fun z => nb (up b z)) (s1 _ _ z), fun j b z => ?_⟩⟩
          obtain ⟨j1, z1⟩ := d3 j b z
          obtain ⟨j2, z2⟩ := d2 j1 b z1
          obtain ⟨j3, z3⟩ := d1 j2 b z2
          rcases v4.sub j3 b z3 with y | y
          · exact .inl (up b y)
          · exact .inr (s1.free y)
        refine ⟨sls, _, r.argsOk E3 q4 q3, ?_⟩
        cases ef : fm sls with
        | ret d obs =>
          rw [ef] at q
          intro u H' φ' O rv
          obtain ⟨ψ, E', v'⟩ := r.back E3 q4 q3 O
          unfold xFin clsX at q
          dsimp only at q
          split at q
          · rename_i ρ5 c
            obtain ⟨χ, F, v⟩ := fin (stay O own0 lt0 t0) (stay O own1 lt1 t1) (stay O w2 lt2 t2) E' v' c
            exact q u H' χ F v rv
          · exact q.elim
        | ex c obs =>
          rw [ef] at q
          intro H' φ' O
          obtain ⟨ψ, E', v'⟩ := r.back E3 q4 q3 O
          unfold xFin clsX at q
          dsimp only at q
          split at q
          · rename_i ρ5 c
            obtain ⟨χ, F, v⟩ := fin (stay O own0 lt0 t0) (stay O own1 lt1 t1) (stay O w2 lt2 t2) E' v' c
            exact q H' χ F v
          · exact q.elim
        | stuck => rw [ef] at q; exact q.elim
      · cases q2
    · exact q.elim
  · exact q.elim
end
end PL

/- PL, the part for such lists' making and reading, and a pair that is kept -/
namespace PL
open PySem PySem.Spec PyProof.Rows L2
section
variable {X : Cx} {B : Bd} {W : WX} {rk : Kd} {xo : XO} {e a b : Expr} {es : List Expr} {m ma mb mj me md : ME} {mx : MX} {ms : MA} {ks : List Bool} {k k1 k2 : Kd} {pos p p2 p3 apos cp : Pos} {x y C nm : Str} {n i ih : Nat} {fm : FM}
/-! ### an item read -/
def mAt2 (i : Nat) (mj : ME) : ME := fun ρ => (twoAt ρ i).bind fun p => (mIdx mj ρ).bind fun j => match itm j p.1 p.2 with
  | .lst ds => some (.list ds)
  | _ => none
theorem itm_rep {K : PySem.W.Frag} {H : Hp} {a b : Addr} {fa fb : Addr → Prop} {oa ob : Ob} (ra : OwnRep K H fa a oa) (rb : OwnRep K H fb b ob) (j : Int) : ∃ fp, OwnRep K H fp (itm j a b) (itm j oa ob) := by
  unfold itm
  split
  · exact ⟨_, ra⟩
  · exact ⟨_, rb⟩
theorem pm_at2 (hN : X.N[i]? = some y) (hb : PEm X xo k b mj) (hsub : PlainIx b := by intro _ _; rfl) (hv : Vis X.env.scope y := by first | exact Or.inl rfl | exact Or.inr (Or.inl rfl) | exact Or.inr (Or.inr rfl)) (hd : (y == ("__debug__" : Str)) = false := by decide) (hcd : (y == ("__classdict__" : Str)) = false := by decide) :
    PEm X xo .any (.Subscript (.Name y p) b pos) (mAt2 i mj) := (pe_ix ix_seq (pe_var (i := i) hN hv hd hcd) hb hsub).weak fun σ H Q ⟨ρ, d, R, q, z⟩ => by
  obtain ⟨pr, q1, q⟩ := Option.bind_eq_some_iff.mp q
  obtain ⟨j, q2, q⟩ := Option.bind_eq_some_iff.mp q
  split at q
  · rename_i ds e1
    cases q
    refine ix_two R q1 q2 fun x a b fa fb H1 s1 g1 g2 g3 g4 => z _ H1 s1 ?_
    obtain ⟨fp, r⟩ := itm_rep g3 g4 j
    rw [e1] at r
    cases r with | lst ea rr => exact .seq (SqL.of ea) rr
  · cases q
/-! an item's method, of no arguments, that turns nothing -/
def mMeth2 (C nm : Str) (i : Nat) (mj : ME) (fm : FM) : ME := fun ρ => (twoAt ρ i).bind fun p => (mIdx mj ρ).bind fun j => match itm j p.1 p.2 with
  | .ins C' fs => if C' = C ∧ fs.lookup nm = none then (match fm [.r (.ins C' fs)] with
    | .ret d _ => some d
    | _ => none) else none
  | _ => none
theorem pm_meth2 {pl : Sem Bool} (G : MtT X.prog X.w X.K X.mg X.base n C nm .per fm) (hr : Room n X.A) (hN : X.N[i]? = some y) (hb : PEm X xo k b mj)
    (hev : MetEv X (.Subscript (.Name y p) b p2) nm [] apos pos pl := by rfl) (hsub : PlainIx b := by intro _ _; rfl)
    (hv : Vis X.env.scope y := by first | exact Or.inl rfl | exact Or.inr (Or.inl rfl) | exact Or.inr (Or.inr rfl)) (hd : (y == ("__debug__" : Str)) = false := by decide) (hcd : (y == ("__classdict__" : Str)) = false := by decide) :
    PEm X xo .per (.Call (.Attribute (.Subscript (.Name y p) b p2) nm apos) [] [] pos) (mMeth2 C nm i mj fm) := by
  obtain ⟨⟨f, fd, ps, F, hm, hb'⟩, c⟩ := G
  refine (pe_metA0 (pe_ix ix_seq (pe_var (i := i) hN hv hd hcd) hb hsub) c hm F hr hb' passE0 hev).weak fun σ H Q ⟨ρ, d, R, q, z⟩ => ?_
  obtain ⟨pr, q1, q⟩ := Option.bind_eq_some_iff.mp q
  obtain ⟨j, q2, q⟩ := Option.bind_eq_some_iff.mp q
  split at q
  · rename_i C' fs e1
    split at q
    · rename_i hc
      split at q
      · rename_i d' obs e2
        cases q
        obtain ⟨hC, hl⟩ := hc
        subst hC
        refine ix_two R q1 q2 fun x a b fa fb H1 s1 g1 g2 g3 g4 => ?_
        obtain ⟨fp, r⟩ := itm_rep g3 g4 j
        rw [e1] at r
        cases r with
        | @ins _ dx _ _ vs fp' h2 h3 h4 =>
          refine ⟨_, dx, vs, rfl, h2, h4.lookN hl, ?_⟩
          refine ⟨[.r (.ins _ fs)], _, argsR (vs := []) (ds := []) (.ins h2 h3 h4) .nil, ?_⟩
          rw [e2]
          intro v H' φ' O r
          have s : Same H1 H' := fun b o q => O.ev.st b o (fun ⟨_, z⟩ => z) q
          exact z v H' (s1.trans s) r
      · cases q
    · cases q
  · cases q
/-- the same, a new list -/
def mMeth2N (C nm : Str) (i : Nat) (mj : ME) (fm : FM) : ME := fun ρ => (twoAt ρ i).bind fun p => (mIdx mj ρ).bind fun j => match itm j p.1 p.2 with
  | .ins C' fs => if C' = C ∧ fs.lookup nm = none then (match fm [.r (.ins C' fs)] with
    | .ret (.list ds) _ => some (.list ds)
    | _ => none) else none
  | _ => none
theorem pm_meth2N {pl : Sem Bool} (G : MtT X.prog X.w X.K X.mg X.base n C nm .new fm) (hr : Room n X.A) (hN : X.N[i]? = some y) (hb : PEm X xo k b mj)
    (hev : MetEv X (.Subscript (.Name y p) b p2) nm [] apos pos pl := by rfl) (hsub : PlainIx b := by intro _ _; rfl)
    (hv : Vis X.env.scope y := by first | exact Or.inl rfl | exact Or.inr (Or.inl rfl) | exact Or.inr (Or.inr rfl)) (hd : (y == ("__debug__" : Str)) = false := by decide) (hcd : (y == ("__classdict__" : Str)) = false := by decide) :
    PEm X xo .new (.Call (.Attribute (.Subscript (.Name y p) b p2) nm apos) [] [] pos) (mMeth2N C nm i mj fm) := by
  obtain ⟨⟨f, fd, ps, F, hm, hb'⟩, c⟩ := G
  refine (pe_metA0 (pe_ix ix_seq (pe_var (i := i) hN hv hd hcd) hb hsub) c hm F hr hb' passE0 hev).weak fun σ H Q ⟨ρ, d, R, q, z⟩ => ?_
  obtain ⟨pr, q1, q⟩ := Option.bind_eq_some_iff.mp q
  obtain ⟨j, q2, q⟩ := Option.bind_eq_some_iff.mp q
  split at q
  · rename_i C' fs e1
    split at q
    · rename_i hc
      split at q
      · rename_i d' obs e2
        cases q
        obtain ⟨hC, hl⟩ := hc
        subst hC
        refine ix_two R q1 q2 fun x a b fa fb H1 s1 g1 g2 g3 g4 => ?_
        obtain ⟨fp, r⟩ := itm_rep g3 g4 j
        rw [e1] at r
        cases r with
        | @ins _ dx _ _ vs fp' h2 h3 h4 =>
          refine ⟨_, dx, vs, rfl, h2, h4.lookN hl, ?_⟩
          refine ⟨[.r (.ins _ fs)], _, argsR (vs := []) (ds := []) (.ins h2 h3 h4) .nil, ?_⟩
          rw [e2]
          intro v H' φ' O r
          have s : Same H1 H' := fun b o q => O.ev.st b o (fun ⟨_, z⟩ => z) q
          refine z v H' (s1.trans s) ?_
          rcases r with ⟨_, z⟩ | ⟨_, _, _, _, _, _, _, z, _⟩ | ⟨a, xs, es, e1, e2, nn, ha, rr, _⟩
          · cases z
          · cases z
          · exact ⟨a, xs, es, e1, e2, s1.free nn, ha, rr⟩
      · cases q
    · cases q
  · cases q
/-! ### a new list is turned and let go -/
def sAppNew (me md : ME) : MS := fun ρ => match me ρ, md ρ with
  | some (.list ds), some _ => if ds.length < sizeLine then .nx ρ else .stuck
  | _, _ => .stuck
theorem sm_appNew {o : Expr} (hbm : PE X (.Call (.Attribute o "append" apos) [e] [] p) (tBM X.K "list" rAppend (tE X.K B.xo .new me) (tCons (tE X.K B.xo .per md) tNil)))
    (hq : swapsWith (.Call (.Attribute o "append" apos) [e] [] p) none pos.line X.env = pure false := by rfl) : PSm X B W rk (.Expr (.Call (.Attribute o "append" apos) [e] [] p) pos) (sAppNew me md) := (ps_expr hbm hq).weak fun D σ H ⟨ρ, φ, E, q⟩ => by
  unfold sAppNew at q
  split at q
  · rename_i ds d h1 h2
    split at q
    · rename_i hl
      refine ⟨ρ, _, E.rd, h1, fun v H1 s1 r1 => ?_⟩
      obtain ⟨l, xs, ds', rfl, ed, nl, ea, rr⟩ := r1
      cases ed
      refine ⟨.inl ⟨rfl, _, SqL.of ea⟩, ρ, d, E.rd.mono s1, h2, fun w H2 s2 rw => ?_⟩
      have S : Same H (upd H2 l (.lst (xs ++ [w]))) := fun b o z => by rw [upd_ne (ne_of_none z nl)]; exact s2 b o (s1 b o z)
      exact ⟨l, xs, w, rfl, rfl, s2 _ _ ea, by rw [rr.length]; exact hl, q σ _ φ (E.same S) (Ev.same S)⟩
    · exact q.elim
  · exact q.elim
/-! ### such a list made -/
def sTwoL (i : Nat) : MS := fun ρ => if isO ρ[i]? = true ∨ ρ.length ≤ i then .stuck else .nx (ρ.set i (.o (.two (.lst []) (.lst []))))
theorem sm_twoL {pos' p1 p2' : Pos} (hN : X.N.Nodup) (hi : X.N[i]? = some y) (hx : Loc X.env.scope y) (hs1 : starEach [.List [] p1, .List [] p2'] X.env = (false, eval (.List [] p1) X.env) :: starEach [.List [] p2'] X.env := by rfl) (hs2 : starEach [.List [] p2'] X.env = [(false, eval (.List [] p2') X.env)] := by rfl)
    (hs : swapsWith (.List [.List [] p1, .List [] p2'] p) (some (.Name y pos')) pos.line X.env = pure false := by rfl)
    (hf : X.fn y = true ∨ X.env.scope.names.lookup y = some .local := by first | exact .inl rfl | exact .inr rfl | assumption) : PSm X B W rk (.Assign [.Name y pos'] (.List [.List [] p1, .List [] p2'] p) pos) (sTwoL i) :=
  (ps_set hN hi hx (pe_lst (pa_cons (pe_lst pa_nil) (pa_cons (pe_lst pa_nil) pa_nil hs2) hs1)) hs hf).weak fun D σ H ⟨ρ, φ, E, q⟩ => by
    unfold sTwoL at q
    split at q
    · exact q.elim
    · rename_i hn
      have h1 : isO ρ[i]? = false := Bool.eq_false_iff.mpr fun z => hn (.inl z)
      have h2 : i < ρ.length := Nat.lt_of_not_le fun z => hn (.inr z)
      refine ⟨Nat.zero_le _, fun a na => ⟨Nat.zero_le _, fun b nb => ⟨line100 (by show 2 ≤ 100; decide), fun t nt => ?_⟩⟩⟩
      have sa : Same H (upd H a (.lst [])) := same_new na _
      have sb : Same (upd H a (.lst [])) (upd (upd H a (.lst [])) b (.lst [])) := same_new nb _
      have st : Same (upd (upd H a (.lst [])) b (.lst [])) (upd (upd (upd H a (.lst [])) b (.lst [])) t (.lst [.ref a, .ref b])) := same_new nt _
      have nab : a ≠ b := fun z => by subst z; rw [upd_same] at nb; cases nb
      have nat : a ≠ t := fun z => by subst z; rw [upd_ne nab, upd_same] at nt; cases nt
      have nbt : b ≠ t := fun z => by subst z; rw [upd_same] at nt; cases nt
      have S := (sa.trans sb).trans st
      refine q _ _ _ (E.setOwn (isO_no h1) h2 S (.two upd_same (.lst (st _ _ (sb _ _ upd_same)) .nil) (.lst (st _ _ upd_same) .nil) (fun c z1 z2 => nab (z1.symm.trans z2)) (fun z => nat z.symm) (fun z => nbt z.symm)) fun c hc => ?_) ⟨fun b o _ h => S b o h, fun j c z => z.elim (fun z => .inr ?_) fun z => .inl ⟨j, z⟩⟩
      · rcases hc with rfl | rfl | rfl
        · exact (sa.trans sb).free nt
        · exact na
        · exact sa.free nb
      · rcases z.2 with rfl | rfl | rfl
        · exact (sa.trans sb).free nt
        · exact na
        · exact sa.free nb
theorem mk_rd {K : PySem.W.Frag} {σ : L2.St} {H : Hp} {Q : VK} {ob : Ob} (e : fm [.o (.ins C [])] = .ret .none [ob]) (z : ∀ x fp H', Same H H' → OwnRep K H' fp x ob → (∀ b, fp b → H b = none) → Q (.ref x) H') : tMake (He.ga K C) (spM K .per fm) [] E0 tNil σ H Q := by
  intro x dx n1 n2 nd
  have e1 : upd (upd H dx (.own x)) x (.ins (He.ga K C) dx []) x = some (.ins (He.ga K C) dx []) := upd_same
  have e2 : upd (upd H dx (.own x)) x (.ins (He.ga K C) dx []) dx = some (.own x) := by rw [upd_ne nd, upd_same]
  have s2 : Same H (upd (upd H dx (.own x)) x (.ins (He.ga K C) dx [])) := fun b o z => by rw [upd_ne (ne_of_none z n1), upd_ne (ne_of_none z n2)]; exact z
  refine ⟨_, _, argsMk (Ca := x) (vs := []) (ds := []) e1 e2 .nil, ?_⟩
  rw [show (Sl.o (.ins C []) :: ([] : List PyData).map Sl.d) = [.o (.ins C [])] from rfl, e]
  intro v H' φ' O rv
  cases rv
  refine ⟨rfl, ?_⟩
  obtain ⟨ρr, eo, own⟩ := O.own
  obtain ⟨x', ob', g1, g2, g3⟩ := own 0 _ rfl
  simp at g1
  subst g1
  have eob : ob' = ob := by
    cases ρr with
    | nil => simp at g2
    | cons a ρr =>
      simp at g2
      subst g2
      rw [outs] at eo
      exact (List.cons.inj eo).1.symm
  subst eob
  refine z _ _ _ (fun b o y => ?_) g3 fun b hb => ?_
  · refine O.ev.st b o (fun ⟨j, _, w⟩ => ?_) (s2 b o y)
    rcases w with w | w | w
    · subst w; rw [n1] at y; cases y
    · subst w; rw [n2] at y; cases y
    · exact w
  · cases hz : H b with
    | none => rfl
    | some o =>
      rcases O.ev.sub 0 b hb with ⟨l, _, w⟩ | w
      · rcases w with w | w | w
        · subst w; rw [n1] at hz; cases hz
        · subst w; rw [n2] at hz; cases hz
        · exact w.elim
      · rw [s2 b o hz] at w; cases w
def sMk2 (i : Nat) (C : Str) (fm : FM) : MS := fun ρ => if isO ρ[i]? = true ∨ ρ.length ≤ i then .stuck else match fm [.o (.ins C [])] with
  | .ret .none [ob] => .nx (ρ.set i (.o (.two ob ob)))
  | _ => .stuck
theorem sm_mk2 {pos' p1 p2' q1 q2 : Pos} (hN : X.N.Nodup) (hi : X.N[i]? = some y) (hx : Loc X.env.scope y) (G : MkT X.prog X.w X.K X.mg X.base n C fm) (hr : Room (n + 1) X.A) (hg : Gl X C) (hdb : (C == ("__debug__" : Str)) = false := by decide)
    (hs1 : starEach [.Call (.Name C p1) [] [] q1, .Call (.Name C p2') [] [] q2] X.env = (false, eval (.Call (.Name C p1) [] [] q1) X.env) :: starEach [.Call (.Name C p2') [] [] q2] X.env := by rfl) (hs2 : starEach [.Call (.Name C p2') [] [] q2] X.env = [(false, eval (.Call (.Name C p2') [] [] q2) X.env)] := by rfl)
    (hs : swapsWith (.List [.Call (.Name C p1) [] [] q1, .Call (.Name C p2') [] [] q2] p) (some (.Name y pos')) pos.line X.env = pure false := by rfl)
    (hf : X.fn y = true ∨ X.env.scope.names.lookup y = some .local := by first | exact .inl rfl | exact .inr rfl | assumption) : PSm X B W rk (.Assign [.Name y pos'] (.List [.Call (.Name C p1) [] [] q1, .Call (.Name C p2') [] [] q2] p) pos) (sMk2 i C fm) := by
  obtain ⟨⟨f, fd, ps, F, hm, hb⟩, g⟩ := G
  refine (ps_set hN hi hx (pe_lst (pa_cons (pe_make0 hm F hr hg g hb .nil passL hdb) (pa_cons (pe_make0 hm F hr hg g hb .nil passL hdb) pa_nil hs2) hs1)) hs hf).weak fun D σ H ⟨ρ, φ, E, q⟩ => ?_
  unfold sMk2 at q
  split at q
  · exact q.elim
  · rename_i hn
    have h1 : isO ρ[i]? = false := Bool.eq_false_iff.mpr fun z => hn (.inl z)
    have h2 : i < ρ.length := Nat.lt_of_not_le fun z => hn (.inr z)
    split at q
    · rename_i ob e1
      unfold tAsg tLst tCons
      refine mk_rd (ob := ob) e1 ?_
      intro xa fa Ha sa ra na
      refine mk_rd (ob := ob) e1 ?_
      intro xb fb Hb sb rb nb
      refine ⟨line100 (by show 2 ≤ 100; decide), fun t nt => ?_⟩
      have st : Same Hb (upd Hb t (.lst [.ref xa, .ref xb])) := same_new nt _
      have S := (sa.trans sb).trans st
      have there : ∀ c, fa c → ∃ o, Ha c = some o := fun c hc => let ⟨o, q, _⟩ := ra.soft c hc; ⟨o, q⟩
      have fresh : ∀ c, (c = t ∨ fa c ∨ fb c) → H c = none := fun c hc => by
        rcases hc with rfl | hc | hc
        · exact (sa.trans sb).free nt
        · exact na c hc
        · exact sa.free (nb c hc)
      refine q _ _ _ (E.setOwn (isO_no h1) h2 S (.two upd_same (ra.mono (firm (sb.trans st)) fun b o _ z => st _ _ (sb _ _ z)) (rb.mono (firm st) fun b o _ z => st _ _ z) (fun c z1 z2 => ?_) (fun z => ?_) fun z => ?_) fresh) ⟨fun b o _ h => S b o h, fun j c z => z.elim (fun z => .inr (fresh c z.2)) fun z => .inl ⟨j, z⟩⟩
      · obtain ⟨o, y⟩ := there c z1
        rw [nb c z2] at y
        cases y
      · obtain ⟨o, y⟩ := there t z
        rw [sb _ _ y] at nt
        cases nt
      · obtain ⟨o, y, _⟩ := rb.soft t z
        rw [nt] at y
        cases y
    · exact q.elim
end
end PL

/- PL, the part for methods that hand back a new list, or a pair of one and data -/
namespace PL
open PySem PySem.Spec PyProof.Rows L2
section
variable {X : Cx} {B : Bd} {W : WX} {rk : Kd} {xo : XO} {e a b : Expr} {es : List Expr} {m ma mb : ME} {mx : MX} {ms : MA} {ks : List Bool} {k k1 k2 : Kd} {pos p p2 p3 apos cp : Pos} {x y h C nm : Str} {n i ih : Nat} {fm : FM}
/-! ### handed back -/
theorem rkr_new {H H' : Hp} {σ : L2.St} {ρ : Rho} {φ : Nat → Addr → Prop} {v : V} {d : PyData} {K : PySem.W.Frag} (E : EnvOk K B H σ ρ φ) (r : RK K .new H H' v d) : RKr K .new B H' φ v d := by
  obtain ⟨a, xs, ds, e1, e2, nn, ea, rr⟩ := r
  exact .inr (.inr ⟨a, xs, ds, e1, e2, (E.new0 nn).1, ea, rr, fun j _ z => by obtain ⟨o, q, _⟩ := E.there z; rw [nn] at q; cases q⟩)
theorem sm_retN (he : PEm X B.xo .new e m) : PSm X B W .new (.Return (some e) pos) (sRet m) := (ps_ret he).weak fun D σ H ⟨ρ, φ, E, q⟩ => by
  unfold sRet at q
  cases h : m ρ with
  | none => rw [h] at q; exact q.elim
  | some d =>
    rw [h] at q
    exact ⟨ρ, d, E.rd, h, fun v H' s r => q v σ H' φ (E.same s) (rkr_new E r)⟩
theorem sm_retPN {j : Nat} (ha : PEm X B.xo .new a ma) (hb : PEm X B.xo .per b mb) (hs : starEach [a, b] X.env = (false, eval a X.env) :: starEach [b] X.env := by rfl) (hs2 : starEach [b] X.env = [(false, eval b X.env)] := by rfl) :
    PSm X B W .new (.Return (some (.Tuple [a, b] j cp)) pos) (sRet (mTup (mCons ma (mCons mb mNil)))) := (ps_ret (pe_tup (pa_cons ha (pa_cons hb pa_nil hs2) hs))).weak fun D σ H ⟨ρ, φ, E, q⟩ => by
  unfold sRet at q
  cases h : mTup (mCons ma (mCons mb mNil)) ρ with
  | none => rw [h] at q; exact q.elim
  | some d =>
    rw [h] at q
    obtain ⟨ds, g1, h⟩ := Option.bind_eq_some_iff.mp h
    obtain ⟨d1, g2, g1⟩ := Option.bind_eq_some_iff.mp g1
    obtain ⟨ds2, g3, g1⟩ := Option.bind_eq_some_iff.mp g1
    obtain ⟨d2, g4, g3⟩ := Option.bind_eq_some_iff.mp g3
    obtain ⟨ds3, g5, g3⟩ := Option.bind_eq_some_iff.mp g3
    cases g5
    cases g3
    cases g1
    obtain ⟨_, rfl⟩ := some_if h
    refine ⟨ρ, d1, E.rd, g2, fun v H1 s1 r1 => ⟨ρ, d2, E.rd.mono s1, g4, fun w H2 s2 r2 => ⟨line100 (by show 2 ≤ 100; decide), fun t nt => ?_⟩⟩⟩
    obtain ⟨l, xs, es, rfl, e2, nn, ea, rr⟩ := r1
    subst e2
    have st : Same H2 (upd H2 t (.tup [.ref l, w])) := same_new nt _
    exact q _ σ _ φ (E.same ((s1.trans s2).trans st)) (.inr (.inl ⟨t, l, w, xs, es, d2, rfl, rfl, .of upd_same, (E.new0 nn).1, st _ _ (s2 _ _ ea), rr.mono (firm (s2.trans st)), Rp.mono (firm st) r2, fun j _ z => by obtain ⟨o, q, _⟩ := E.there z; rw [nn] at q; cases q⟩))
theorem sm_retXL (hm : X.mg "list" = none) (hg : Gl X "list") (ha : PXm X B W e mx) (hs : starEach [e] X.env = [(false, eval e X.env)] := by rfl) : PSm X B W .new (.Return (some (.Call (.Name "list" p) [e] [] cp)) pos) (sRetX (xUn listM mx)) :=
  (ps_ret (pe_callTy call_list_of hg hm boot_list (pa_cons ha pa_nil hs) (by decide) (by decide) hs)).weak fun D σ H ⟨ρ, φ, E, q⟩ => by
    refine ⟨ρ, φ, E, ?_⟩
    unfold sRetX xUn at q
    cases e1 : mx ρ with
    | stuck => rw [e1] at q; exact q.elim
    | ex c ρ1 => rw [e1] at q; exact q σ
    | val d ρ1 =>
      rw [e1] at q
      intro v H1 φ1 E1 w1 r1
      cases e2 : listM d with
      | none => simp only [e2, xOut] at q; exact q.elim
      | some d' =>
        simp only [e2, xOut] at q
        exact r1_list v H1 _ d d' (.per r1) e2 fun v' H' s r => q v' σ H' φ1 (E1.same s) (rkr_new E1 r)
/-! ### name = o.m(..), a new list or a pair of one and data -/
def sNewM (i : Nat) (C nm : Str) (ih : Nat) (fm : FM) (ms : MA) : MS := fun ρ => match insOf ρ[ih]?, ms ρ with
  | some (C', fs), some ds => if (C' = C ∧ fs.lookup nm = none) ∧ isO ρ[i]? = false ∧ i < ρ.length then (match fm (.r (.ins C' fs) :: ds.map .d) with
    | .ret (.list xs) _ => .nx (ρ.set i (.o (.lst xs)))
    | .ret (.tuple [.list xs, d2]) _ => .nx (ρ.set i (.o (.pr xs d2)))
    | .ex c _ => .ex c ρ
    | _ => .stuck) else .stuck
  | _, _ => .stuck
theorem sm_newM {pl : Sem Bool} {pos' : Pos} (hN : X.N.Nodup) (hi : X.N[i]? = some y) (hx : Loc X.env.scope y) (tk : Takes X W) (G : MtT X.prog X.w X.K X.mg X.base n C nm .new fm) (hr : Room n X.A) (hh : X.N[ih]? = some h) (ha : PAm X B.xo ks (e :: es) ms) (hk : ks.all id = true := by rfl)
    (hev : MetEv X (.Name h p) nm (e :: es) apos cp pl := by rfl)
    (hv : Vis X.env.scope h := by first | exact Or.inl rfl | exact Or.inr (Or.inl rfl) | exact Or.inr (Or.inr rfl)) (hd : (h == ("__debug__" : Str)) = false := by decide) (hcd : (h == ("__classdict__" : Str)) = false := by decide)
    (hst : starEach (e :: es) X.env = (false, eval e X.env) :: starEach es X.env := by rfl) (hpl : (backTo cp (starEach es X.env)).any (·.1) = false := by rfl)
    (hs : swapsWith (.Call (.Attribute (.Name h p) nm apos) (e :: es) [] cp) (some (.Name y pos')) pos.line X.env = pure false := by rfl)
    (hf : X.fn y = true ∨ X.env.scope.names.lookup y = some .local := by first | exact .inl rfl | exact .inr rfl | assumption) :
    PSm X B W rk (.Assign [.Name y pos'] (.Call (.Attribute (.Name h p) nm apos) (e :: es) [] cp) pos) (sNewM i C nm ih fm ms) := by
  obtain ⟨⟨f, fd, ps, F, hm, hb⟩, c⟩ := G
  refine (ps_set hN hi hx (pe_metA (pe_var (i := ih) hh hv hd hcd) c hm F hr hb (fun σ => passAt tk σ) ha hst hpl hev) hs hf).weak fun D σ H ⟨ρ, φ, E, q⟩ => ?_
  unfold sNewM at q
  split at q
  · rename_i C' fs ds e1 e2
    split at q
    · rename_i hc
      obtain ⟨⟨hC, hl⟩, h1, h3⟩ := hc
      obtain ⟨x, dx, vs, fp, g1, g2, g3⟩ := E.insR e1
      subst hC
      refine ⟨_, g1, x, dx, vs, rfl, g2, g3.lookN hl, ρ, ds, E.rd, e2, fun us H1 s1 r1 => ?_⟩
      obtain ⟨x', fp', y1, y2⟩ := insR_rep (E.rd.mono s1) e1
      rw [g1] at y1
      cases y1
      refine ⟨_, _, argsR y2 (r1.rps hk), ?_⟩
      have same : ∀ {H2 : Hp} {obs : List Ob} {φ2 : Nat → Addr → Prop}, OutOk X.K H1 (.ref x :: us) (.r (.ins C' fs) :: ds.map .d) (fun _ _ => False) H2 obs φ2 → Same H H2 := fun O => s1.trans fun b o q => O.ev.st b o (fun ⟨_, z⟩ => z) q
      split at q
      · rename_i xs obs ef
        rw [ef]
        intro v H2 φ2 O r
        have s := same O
        rcases r with ⟨_, z⟩ | ⟨_, _, _, _, _, _, _, z, _⟩ | ⟨l, zs, ds', rfl, ed, nn, ea, rr, _⟩
        · cases z
        · cases z
        · cases ed
          have nn := s1.free nn
          exact q _ _ _ (E.setNew (isO_no h1) h3 s nn ea rr) ⟨fun b o _ h => s b o h, fun l b z => z.elim (fun z => .inr (by rw [z.2]; exact nn)) fun z => .inl ⟨l, z⟩⟩
      · rename_i xs d2 obs ef
        rw [ef]
        intro v H2 φ2 O r
        have s := same O
        rcases r with ⟨_, z⟩ | ⟨t, l, w, zs, ds', d2', rfl, ed, sq, nn, ea, rr, rw', _⟩ | ⟨_, _, _, _, z, _⟩
        · cases z
        · cases ed
          have nn := s1.free nn
          exact q _ _ _ (E.setOwn (isO_no h1) h3 s (.pr sq ea rr rw') fun b hb => by rw [show b = l from hb]; exact nn) ⟨fun b o _ h => s b o h, fun j b z => z.elim (fun z => .inr (by rw [show b = l from z.2]; exact nn)) fun z => .inl ⟨j, z⟩⟩
        · cases z
      · rename_i c' obs ef
        rw [ef]
        intro H2 φ2 O
        exact q σ H2 φ (E.same (same O)) (Ev.same (same O))
      · exact q.elim
    · exact q.elim
  · exact q.elim
/-! ### a pair's list: read, and turned -/
def mPr0 (i : Nat) : ME := fun ρ => match ρ[i]? with
  | some (.o (.pr ds _)) => some (.list ds)
  | _ => none
theorem pr_rd {K : PySem.W.Frag} {H : Hp} {σ : L2.St} {ρ : Rho} {ds : List PyData} {d : PyData} (R : RdOk K xo H σ ρ) (e : ρ[i]? = some (.o (.pr ds d))) : ∃ x l w xs, σ[i]? = some (some (.ref x)) ∧ SqT K H x [.ref l, w] ∧ H l = some (.lst xs) ∧ Rps K H xs ds := by
  have r := R.rd i _ e
  generalize σ[i]? = v at r ⊢
  cases r with | o r => cases r with | pr h1 h2 h3 h4 => exact ⟨_, _, _, _, rfl, h1, h2, h3⟩
theorem pe_pr0 {K : PySem.W.Frag} {H : Hp} {σ : L2.St} {x l : Addr} {w : V} {Q : VK} (h1 : σ[i]? = some (some (.ref x))) (h2 : SqT K H x [.ref l, w]) (z : Q (.ref l) H) : tOp (rIx K) (tVar i) (tC (.int 0)) σ H Q :=
  ⟨_, h1, .inr (.inl ⟨x, _, 0, .ref l, rfl, rfl, h2, rfl, z⟩)⟩
theorem pm_pr0 {j : Nat} (hN : X.N[i]? = some y) (hv : Vis X.env.scope y := by first | exact Or.inl rfl | exact Or.inr (Or.inl rfl) | exact Or.inr (Or.inr rfl)) (hd : (y == ("__debug__" : Str)) = false := by decide) (hcd : (y == ("__classdict__" : Str)) = false := by decide) (hsub : PlainIx (.Constant (.int 0) j p3) := by intro _ _; rfl) :
    PEm X xo .any (.Subscript (.Name y p) (.Constant (.int 0) j p3) pos) (mPr0 i) := (pe_ix ix_seq (pe_var (i := i) hN hv hd hcd) pe_int hsub).weak fun σ H Q ⟨ρ, d, R, q, z⟩ => by
  unfold mPr0 at q
  split at q
  · rename_i ds d2 e1
    cases q
    obtain ⟨x, l, w, xs, g1, g2, g3, g4⟩ := pr_rd R e1
    exact pe_pr0 g1 g2 (z _ H (Same.refl H) (.seq (SqL.of g3) g4))
  · cases q
def sAppPr (i : Nat) (m : ME) : MS := fun ρ => match ρ[i]?, m ρ with
  | some (.o (.pr ds d2)), some d => if ds.length < sizeLine then .nx (ρ.set i (.o (.pr (ds ++ [d]) d2))) else .stuck
  | _, _ => .stuck
theorem sm_appPr {o : Expr} (hbm : PE X (.Call (.Attribute o "append" apos) [e] [] p) (tBM X.K "list" rAppend (tOp (rIx X.K) (tVar i) (tC (.int 0))) (tCons (tE X.K B.xo .per m) tNil)))
    (hq : swapsWith (.Call (.Attribute o "append" apos) [e] [] p) none pos.line X.env = pure false := by rfl) : PSm X B W rk (.Expr (.Call (.Attribute o "append" apos) [e] [] p) pos) (sAppPr i m) := (ps_expr hbm hq).weak fun D σ H ⟨ρ, φ, E, q⟩ => by
  unfold sAppPr at q
  split at q
  · rename_i ds d2 d h1 h2
    split at q
    · rename_i hl
      obtain ⟨x, g1, r⟩ := E.own h1
      generalize hfp : φ i = fp at r
      cases r with
      | @pr _ l w xs _ _ sq ea rr rw' =>
        refine pe_pr0 g1 sq ⟨.inl ⟨rfl, _, SqL.of ea⟩, ρ, d, E.rd, h2, fun v H' s rv => ?_⟩
        have k : ∀ b o, ¬ φ i b → H' b = some o → upd H' l (.lst (xs ++ [v])) b = some o := fun b o n z => by
          have n' : b ≠ l := fun e => n (by rw [hfp]; exact e)
          rw [upd_ne n']; exact z
        have f : Firm H' (upd H' l (.lst (xs ++ [v]))) := ⟨fun b ys z => by rw [upd_ne (ne_of z (s _ _ ea) (by intro z; cases z))]; exact z, fun b o u z => by rw [upd_ne (ne_of z (s _ _ ea) (by intro z; cases z))]; exact z⟩
        have sb : ∀ b, b = l → φ i b ∨ H' b = none := fun b z => .inl (by rw [hfp]; exact z)
        refine ⟨l, xs, v, rfl, rfl, s _ _ ea, by rw [rr.length]; exact hl, q _ _ _ (EnvOk.turn (E.same s) h1 g1 k (.pr (f.sqt ((firm s).sqt sq)) upd_same (((rr.mono (firm s)).append (Rps.one rv)).mono f) ((rw'.mono (firm s)).mono f)) sb fun b z => ?_) ((Ev.same s).trans (Ev.turn (K := X.K) k sb))⟩
        rw [hfp] at z
        have z : b = l := z
        subst z
        exact ⟨_, upd_same⟩
    · exact q.elim
  · exact q.elim
end
end PL

namespace PL
open PySem PySem.Spec PyProof.Rows L2
def N_parts_of : List Str := ["word"]
def parts_of_b  : MS :=
  (sSeq (sIf (mOrT (mTest (mBin eqM (mBin ixM (mV 0) (mC (.int 0))) (mC (.str "fun")))) (mTest (mBin eqM (mBin ixM (mV 0) (mC (.int 0))) (mC (.str "rel")))))
  (sRet (mUn listM (mBin ixM (mV 0) (mC (.int 2)))))
  sSkip)
  (sSeq (sIf (mOrT (mTest (mBin eqM (mBin ixM (mV 0) (mC (.int 0))) (mC (.str "var")))) (mTest (mBin eqM (mBin ixM (mV 0) (mC (.int 0))) (mC (.str "no")))))
  (sRet (mLst mNil))
  sSkip)
  (sRet (mUn listM (mSl (mV 0) (mSome (mC (.int 1))) mNo)))))
def parts_of_m : FM := runF 1 1 (parts_of_b )
def N_inward : List Str := ["word", "depth"]
def inward_b  : MS :=
  (sSeq (sIf (mTest (mBin eqM (mBin ixM (mV 0) (mC (.int 0))) (mC (.str "all"))))
  (sRet (mBin addM (mV 1) (mC (.int 1))))
  sSkip)
  (sRet (mV 1)))
def inward_m : FM := runF 2 2 (inward_b )
def N_knots : List Str := ["word", "many", "part"]
def knots_b (r_parts_of : FM) (r_knots : FM) : MS :=
  (sSeq (sAsg 1 (mC (.int 1)))
  (sSeq (sFor 2 (mIt (mCall [true] r_parts_of (mCons (mV 0) mNil)))
  (sAsg 1 (mBin addM (mV 1) (mCall [true] r_knots (mCons (mV 2) mNil)))))
  (sRet (mV 1))))
def knots_m : Nat → FM
  | 0 => fun _ => .stuck
  | n + 1 => runF 3 1 (knots_b parts_of_m (knots_m n))
def N_layers : List Str := ["word", "most", "part"]
def layers_b (r_parts_of : FM) (r_layers : FM) : MS :=
  (sSeq (sAsg 1 (mC (.int 0)))
  (sSeq (sFor 2 (mIt (mCall [true] r_parts_of (mCons (mV 0) mNil)))
  (sAsg 1 (mBin maxM (mV 1) (mCall [true] r_layers (mCons (mV 2) mNil)))))
  (sRet (mBin addM (mV 1) (mC (.int 1))))))
def layers_m : Nat → FM
  | 0 => fun _ => .stuck
  | n + 1 => runF 3 1 (layers_b parts_of_m (layers_m n))
def N_nested : List Str := ["word", "most", "part"]
def nested_b (r_parts_of : FM) (r_nested : FM) (r_inward : FM) : MS :=
  (sSeq (sAsg 1 (mC (.int 0)))
  (sSeq (sFor 2 (mIt (mCall [true] r_parts_of (mCons (mV 0) mNil)))
  (sAsg 1 (mBin maxM (mV 1) (mCall [true] r_nested (mCons (mV 2) mNil)))))
  (sRet (mCall [true, true] r_inward (mCons (mV 0) (mCons (mV 1) mNil))))))
def nested_m : Nat → FM
  | 0 => fun _ => .stuck
  | n + 1 => runF 3 1 (nested_b parts_of_m (nested_m n) inward_m)
def N_fair : List Str := ["form"]
def fair_b (r_knots : FM) (r_layers : FM) (r_nested : FM) : MS :=
  (sRet (mBl (mAnd (mBin leM (mCall [true] r_knots (mCons (mV 0) mNil)) (mC (.int 300))) (mAnd (mBin leM (mCall [true] r_layers (mCons (mV 0) mNil)) (mC (.int 60))) (mBin leM (mCall [true] r_nested (mCons (mV 0) mNil)) (mC (.int 6)))))))
def fair_m : FM := runF 1 1 (fair_b (knots_m 140) (layers_m 140) (nested_m 140))
def N_all_bound : List Str := ["word", "depth", "below", "part"]
def all_bound_b (r_inward : FM) (r_parts_of : FM) (r_all_bound : FM) : MS :=
  (sSeq (sIf (mTest (mBin eqM (mBin ixM (mV 0) (mC (.int 0))) (mC (.str "var"))))
  (sRet (mBin ltM (mBin ixM (mV 0) (mC (.int 1))) (mV 1)))
  sSkip)
  (sSeq (sAsg 2 (mCall [true, true] r_inward (mCons (mV 0) (mCons (mV 1) mNil))))
  (sSeq (sFor 3 (mIt (mCall [true] r_parts_of (mCons (mV 0) mNil)))
  (sIf (mNotT (mTest (mCall [true, true] r_all_bound (mCons (mV 3) (mCons (mV 2) mNil)))))
  (sRet (mC (.bool false)))
  sSkip))
  (sRet (mC (.bool true))))))
def all_bound_m : Nat → FM
  | 0 => fun _ => .stuck
  | n + 1 => runF 4 2 (all_bound_b inward_m parts_of_m (all_bound_m n))
def N_without : List Str := ["forms", "form", "one"]
def without_b  : MS :=
  (sRet (mComp 2 (mIt (mV 0)) (mTest (mBin neM (mV 2) (mV 1))) (mV 2)))
def without_m : FM := runF 3 2 (without_b )
def N_joined : List Str := ["ones", "others", "one"]
def joined_b  : MS :=
  (sRet (mBin addM (mUn listM (mV 0)) (mComp 2 (mIt (mV 1)) (mTest (mBin (inM true) (mV 2) (mV 0))) (mV 2))))
def joined_m : FM := runF 3 2 (joined_b )
def N_together : List Str := ["ones", "others"]
def together_b  : MS :=
  (sRet (mUn sortsetM (mBin addM (mUn listM (mV 0)) (mUn listM (mV 1)))))
def together_m : FM := runF 2 2 (together_b )
def N_cell_at_l : List Str := ["script", "k"]
def cell_at_l_b  : MS :=
  (sSeq (sIf (mTest (mBin ltM (mV 1) (mUn lenM (mVA 0))))
  (sRet (mBin ixM (mVA 0) (mV 1)))
  sSkip)
  (sRet (mC (.int 0))))
def cell_at_l_m : FM := runF 2 2 (cell_at_l_b )
def N_next_l : List Str := ["seed"]
def next_l_b  : MS :=
  (sRet (mBin modM (mBin addM (mBin mulM (mV 0) (mC (.int 48271))) (mC (.int 12345))) (mC (.int 2147483647))))
def next_l_m : FM := runF 1 1 (next_l_b )
def N_name_by_l : List Str := ["cell", "seed", "name", "k"]
def name_by_l_b (r_next_l : FM) : MS :=
  (sSeq (sAsg 1 (mCall [true] r_next_l (mCons (mV 0) mNil)))
  (sSeq (sAsg 2 (mC (.str "")))
  (sSeq (sFor 3 (mR1 (mBin addM (mC (.int 1)) (mBin modM (mV 0) (mC (.int 12)))))
  (sSeq (sAsg 2 (mBin addM (mV 2) (mBin ixM (mC (.str "abcdefghijklmnopqrstuvwxyz")) (mBin modM (mBin divM (mV 1) (mC (.int 64))) (mC (.int 26))))))
  (sAsg 1 (mCall [true] r_next_l (mCons (mV 1) mNil)))))
  (sRet (mV 2)))))
def name_by_l_m : FM := runF 4 1 (name_by_l_b next_l_m)
def N_like_l : List Str := ["found", "due", "one", "other"]
def like_l_b (r_like_l : FM) : MS :=
  (sSeq (sIf (mTest (mUn (isiM "tuple") (mV 1)))
  (sSeq (sIf (mOrT (mNotT (mTest (mUn (isiM "tuple") (mV 0)))) (mTest (mBin neM (mUn lenM (mV 0)) (mUn lenM (mV 1)))))
  (sRet (mC (.bool false)))
  sSkip)
  (sSeq (sForZ 2 3 (mZ (mV 0)) (mZ (mV 1))
  (sIf (mNotT (mTest (mCall [true, true] r_like_l (mCons (mV 2) (mCons (mV 3) mNil)))))
  (sRet (mC (.bool false)))
  sSkip))
  (sRet (mC (.bool true)))))
  sSkip)
  (sSeq (sIf (mTest (mUn (isiM "str") (mV 1)))
  (sRet (mBl (mAnd (mUn (isiM "str") (mV 0)) (mBin eqM (mV 0) (mV 1)))))
  sSkip)
  (sRet (mBl (mAnd (mUn (isiM "int") (mV 0)) (mAnd (mNot (mUn (isiM "bool") (mV 0))) (mBin eqM (mV 0) (mV 1))))))))
def like_l_m : Nat → FM
  | 0 => fun _ => .stuck
  | n + 1 => runF 4 2 (like_l_b (like_l_m n))
def N_rows_like_l : List Str := ["found", "due", "one", "other"]
def rows_like_l_b (r_like_l : FM) : MS :=
  (sSeq (sIf (mOrT (mNotT (mTest (mUn (isiM "list") (mV 0)))) (mTest (mBin neM (mUn lenM (mV 0)) (mUn lenM (mV 1)))))
  (sRet (mC (.bool false)))
  sSkip)
  (sSeq (sForZ 2 3 (mZ (mV 0)) (mZ (mV 1))
  (sIf (mNotT (mTest (mCall [true, true] r_like_l (mCons (mV 2) (mCons (mV 3) mNil)))))
  (sRet (mC (.bool false)))
  sSkip))
  (sRet (mC (.bool true)))))
def rows_like_l_m : FM := runF 4 2 (rows_like_l_b (like_l_m 140))
def N_whole_l : List Str := ["found", "due"]
def whole_l_b  : MS :=
  (sRet (mBl (mAnd (mUn (isiM "int") (mV 0)) (mAnd (mNot (mUn (isiM "bool") (mV 0))) (mBin eqM (mV 0) (mV 1))))))
def whole_l_m : FM := runF 2 2 (whole_l_b )
def N_stood_l : List Str := ["rows", "number", "met", "left", "one", "given"]
def stood_l_b  : MS :=
  (sSeq (sNew 2 (mLst (mCons (mV 1) mNil)))
  (sSeq (sNew 3 (mLst (mCons (mV 1) mNil)))
  (sSeq (whileL (mTest (mBin gtM (mUn lenM (mVA 3)) (mC (.int 0))))
  (sSeq (sPop 4 3)
  (sFor 5 (mIt (mBin ixM (mBin ixM (mVA 0) (mV 4)) (mC (.int 0))))
  (sIf (mTest (mBin (inM true) (mV 5) (mVA 2)))
  (sSeq (sApp 2 (mV 5))
  (sApp 3 (mV 5)))
  sSkip))) 100)
  (sRet (mUn sortedM (mVA 2))))))
def stood_l_m : FM := runF 6 2 (stood_l_b )
def N_Hall_seal_at : List Str := ["self", "number"]
def Hall_seal_at_b  : MS :=
  (sSeq (sIf (mNotT (mTest (mChain leM ltM (mC (.int 0)) (mV 1) (mUn lenM (mAttrL 0 "Hall" "seals")))))
  (sExc "NoSeal")
  sSkip)
  (sRet (mBin ixM (mAttrL 0 "Hall" "seals") (mV 1))))
def Hall_seal_at_m : FM := runF 2 2 (Hall_seal_at_b )
def N_Hall_told : List Str := ["self", "number", "seal"]
def Hall_told_b (r_Hall_seal_at : FM) : MS :=
  (sSeq (sAsgX 2 (xMeth "Hall" "seal_at" (.r 0) 0 r_Hall_seal_at (xCons (xE (mV 1)) xNil)))
  (sRet (mTup (mCons (mUn listM (mBin ixM (mV 2) (mC (.int 0)))) (mCons (mBin ixM (mV 2) (mC (.int 1))) mNil)))))
def Hall_told_m : FM := runF 3 2 (Hall_told_b Hall_seal_at_m)
def N_Hall_bases : List Str := ["self", "number"]
def Hall_bases_b (r_Hall_seal_at : FM) : MS :=
  (sRetX (xUn listM (xBin ixM (xMeth "Hall" "seal_at" (.r 0) 0 r_Hall_seal_at (xCons (xE (mV 1)) xNil)) (xE (mC (.int 2))))))
def Hall_bases_m : FM := runF 2 2 (Hall_bases_b Hall_seal_at_m)
def N_Hall_stood : List Str := ["self", "number", "met", "k", "given"]
def Hall_stood_b (r_Hall_seal_at : FM) : MS :=
  (sSeq (sDoX (xMeth "Hall" "seal_at" (.r 0) 0 r_Hall_seal_at (xCons (xE (mV 1)) xNil)))
  (sSeq (sDNew 2 (mV 1))
  (sSeq (sFor 3 (mR3 (mV 1) (mUn negM (mC (.int 1))) (mUn negM (mC (.int 1))))
  (sIf (mDIn 2 (mV 3))
  (sFor 4 (mIt (mBin ixM (mBin ixM (mAttrL 0 "Hall" "seals") (mV 3)) (mC (.int 3))))
  (sDSet 2 (mV 4)))
  sSkip))
  (sRet (mUn sortedM (mListD 2))))))
def Hall_stood_m : FM := runF 5 2 (Hall_stood_b Hall_seal_at_m)
def N_no_seal_l : List Str := ["hall", "number", "many", "way", "e", "other"]
def no_seal_l_b (r_Hall_told : FM) (r_Hall_bases : FM) (r_Hall_stood : FM) : MS :=
  (sSeq (sAsg 2 (mC (.int 0)))
  (sSeq (sFor 3 (mR1 (mC (.int 3)))
  (sTryAs ["NoSeal", "Unfit", "TooLarge", "NoThing", "NoWord"] 4 "HallError"
  (sIf (mTest (mBin eqM (mV 3) (mC (.int 0))))
  (sDoX (xMeth "Hall" "told" (.r 0) 0 r_Hall_told (xCons (xE (mV 1)) xNil)))
  (sIf (mTest (mBin eqM (mV 3) (mC (.int 1))))
  (sDoX (xMeth "Hall" "bases" (.r 0) 0 r_Hall_bases (xCons (xE (mV 1)) xNil)))
  (sDoX (xMeth "Hall" "stood" (.r 0) 0 r_Hall_stood (xCons (xE (mV 1)) xNil)))))
  (sSeq (sAsg 5 (mBl (mOr (mIsE ["NoSeal", "Unfit", "TooLarge", "NoThing", "NoWord"] 4 (subE · "NoThing")) (mIsE ["NoSeal", "Unfit", "TooLarge", "NoThing", "NoWord"] 4 (subE · "NoWord")))))
  (sSeq (sAsg 5 (mBl (mOr (mV 5) (mOr (mIsE ["NoSeal", "Unfit", "TooLarge", "NoThing", "NoWord"] 4 (subE · "TooLarge")) (mIsE ["NoSeal", "Unfit", "TooLarge", "NoThing", "NoWord"] 4 (subE · "Unfit"))))))
  (sAsg 2 (mBin addM (mV 2) (mUn intM (mBl (mAnd (mIsE ["NoSeal", "Unfit", "TooLarge", "NoThing", "NoWord"] 4 (subE · "NoSeal")) (mAnd (mIsE ["NoSeal", "Unfit", "TooLarge", "NoThing", "NoWord"] 4 fun _ => true) (mNot (mV 5))))))))))))
  (sRet (mBin eqM (mV 2) (mC (.int 3))))))
def no_seal_l_m : FM := runF 6 2 (no_seal_l_b Hall_told_m Hall_bases_m Hall_stood_m)
def N_Hall_sealed : List Str := ["self", "under", "said", "bases", "given"]
def Hall_sealed_b (r_fair : FM) : MS :=
  (sSeq (sIf (mOrT (mTest (mBin gtM (mUn lenM (mV 1)) (mC (.int 64)))) (mNotT (mTest (mCall [true] r_fair (mCons (mV 2) mNil)))))
  (sExc "TooLarge")
  sSkip)
  (sSeq (sAppF 0 "Hall" "seals" (mTup (mCons (mUn tupleM (mV 1)) (mCons (mV 2) (mCons (mUn tupleM (mV 3)) (mCons (mUn tupleM (mV 4)) mNil))))))
  (sRet (mBin subM (mUn lenM (mAttrL 0 "Hall" "seals")) (mC (.int 1))))))
def Hall_sealed_m : FM := runF 5 5 (Hall_sealed_b fair_m)
def N_Hall_assume : List Str := ["self", "form"]
def Hall_assume_b (r_Hall_sealed : FM) : MS :=
  (sRetX (xMeth "Hall" "sealed" (.o 0) 0 r_Hall_sealed (xCons (xE (mLst (mCons (mV 1) mNil))) (xCons (xE (mV 1)) (xCons (xE (mLst mNil)) (xCons (xE (mLst mNil)) xNil))))))
def Hall_assume_m : FM := runF 2 2 (Hall_assume_b Hall_sealed_m)
def N_Hall_apply : List Str := ["self", "number", "other", "seal", "met", "said", "bases"]
def Hall_apply_b (r_Hall_seal_at : FM) (r_together : FM) (r_Hall_sealed : FM) (r_joined : FM) : MS :=
  (sSeq (sAsgX 3 (xMeth "Hall" "seal_at" (.r 0) 0 r_Hall_seal_at (xCons (xE (mV 1)) xNil)))
  (sSeq (sAsgX 4 (xMeth "Hall" "seal_at" (.r 0) 0 r_Hall_seal_at (xCons (xE (mV 2)) xNil)))
  (sSeq (sAsg 5 (mBin ixM (mV 3) (mC (.int 1))))
  (sSeq (sIf (mOrT (mTest (mBin neM (mBin ixM (mV 5) (mC (.int 0))) (mC (.str "if")))) (mTest (mBin neM (mBin ixM (mV 5) (mC (.int 1))) (mBin ixM (mV 4) (mC (.int 1))))))
  (sExc "Unfit")
  sSkip)
  (sSeq (sAsg 6 (mCall [true, true] r_together (mCons (mBin ixM (mV 3) (mC (.int 2))) (mCons (mBin ixM (mV 4) (mC (.int 2))) mNil))))
  (sRetX (xMeth "Hall" "sealed" (.o 0) 0 r_Hall_sealed (xCons (xE (mCall [true, true] r_joined (mCons (mBin ixM (mV 3) (mC (.int 0))) (mCons (mBin ixM (mV 4) (mC (.int 0))) mNil)))) (xCons (xE (mBin ixM (mV 5) (mC (.int 2)))) (xCons (xE (mV 6)) (xCons (xE (mLst (mCons (mV 1) (mCons (mV 2) mNil)))) xNil)))))))))))
def Hall_apply_m : FM := runF 7 3 (Hall_apply_b Hall_seal_at_m together_m Hall_sealed_m joined_m)
def N_Hall_axiom : List Str := ["self", "form", "number"]
def Hall_axiom_b (r_all_bound : FM) (r_Hall_sealed : FM) : MS :=
  (sSeq (sIf (mNotT (mTest (mCall [true, true] r_all_bound (mCons (mV 1) (mCons (mC (.int 0)) mNil)))))
  (sExc "Unfit")
  sSkip)
  (sSeq (sAsgX 2 (xMeth "Hall" "sealed" (.o 0) 0 r_Hall_sealed (xCons (xE (mLst mNil)) (xCons (xE (mV 1)) (xCons (xE (mLst (mCons (mUn lenM (mAttrL 0 "Hall" "ground")) mNil))) (xCons (xE (mLst mNil)) xNil))))))
  (sSeq (sAppF 0 "Hall" "ground" (mV 1))
  (sRet (mV 2)))))
def Hall_axiom_m : FM := runF 3 2 (Hall_axiom_b (all_bound_m 70) Hall_sealed_m)
def N_Hall_drop : List Str := ["self", "number", "form", "seal"]
def Hall_drop_b (r_Hall_seal_at : FM) (r_Hall_sealed : FM) (r_without : FM) : MS :=
  (sSeq (sAsgX 3 (xMeth "Hall" "seal_at" (.r 0) 0 r_Hall_seal_at (xCons (xE (mV 1)) xNil)))
  (sRetX (xMeth "Hall" "sealed" (.o 0) 0 r_Hall_sealed (xCons (xE (mCall [true, true] r_without (mCons (mBin ixM (mV 3) (mC (.int 0))) (mCons (mV 2) mNil)))) (xCons (xE (mTup (mCons (mC (.str "if")) (mCons (mV 2) (mCons (mBin ixM (mV 3) (mC (.int 1))) mNil))))) (xCons (xE (mBin ixM (mV 3) (mC (.int 2)))) (xCons (xE (mLst (mCons (mV 1) mNil))) xNil)))))))
def Hall_drop_m : FM := runF 4 3 (Hall_drop_b Hall_seal_at_m Hall_sealed_m without_m)
def N_Hall_more : List Str := ["self", "number", "form", "seal"]
def Hall_more_b (r_Hall_seal_at : FM) (r_Hall_sealed : FM) (r_joined : FM) : MS :=
  (sSeq (sAsgX 3 (xMeth "Hall" "seal_at" (.r 0) 0 r_Hall_seal_at (xCons (xE (mV 1)) xNil)))
  (sRetX (xMeth "Hall" "sealed" (.o 0) 0 r_Hall_sealed (xCons (xE (mCall [true, true] r_joined (mCons (mBin ixM (mV 3) (mC (.int 0))) (mCons (mLst (mCons (mV 2) mNil)) mNil)))) (xCons (xE (mBin ixM (mV 3) (mC (.int 1)))) (xCons (xE (mBin ixM (mV 3) (mC (.int 2)))) (xCons (xE (mLst (mCons (mV 1) mNil))) xNil)))))))
def Hall_more_m : FM := runF 4 3 (Hall_more_b Hall_seal_at_m Hall_sealed_m joined_m)
def N_more_l : List Str := ["hall", "rows", "axioms", "seed", "name", "form", "way", "last", "said", "first"]
def more_l_b (r_Hall_assume : FM) (r_Hall_axiom : FM) (r_Hall_drop : FM) (r_Hall_more : FM) (r_Hall_told : FM) (r_Hall_apply : FM) : MS :=
  (sSeq (sAsg 5 (mTup (mCons (mC (.str "rel")) (mCons (mV 4) (mCons (mTup (mCons (mTup (mCons (mC (.str "var")) (mCons (mBin modM (mBin divM (mV 3) (mC (.int 64))) (mC (.int 5))) mNil))) mNil)) mNil)))))
  (sSeq (sAsg 6 (mBin modM (mV 3) (mC (.int 5))))
  (sSeq (sAsg 7 (mBin modM (mBin divM (mV 3) (mC (.int 320))) (mBin maxM (mC (.int 1)) (mUn lenM (mVA 1)))))
  (sSeq (sIf (mOrT (mTest (mBin eqM (mUn lenM (mVA 1)) (mC (.int 0)))) (mTest (mBin eqM (mV 6) (mC (.int 0)))))
  (sSeq (sApp 1 (mTup (mCons (mLst mNil) (mCons (mLst mNil) mNil))))
  (sRetX (xMeth "Hall" "assume" (.o 0) 0 r_Hall_assume (xCons (xE (mV 5)) xNil))))
  sSkip)
  (sSeq (sIf (mTest (mBin eqM (mV 6) (mC (.int 1))))
  (sSeq (sApp 2 (mTup (mCons (mC (.str "rel")) (mCons (mV 4) (mCons (mTup mNil) mNil)))))
  (sSeq (sApp 1 (mTup (mCons (mLst mNil) (mCons (mLst (mCons (mBin subM (mUn lenM (mVA 2)) (mC (.int 1))) mNil)) mNil))))
  (sRetX (xMeth "Hall" "axiom" (.o 0) 0 r_Hall_axiom (xCons (xE (mTup (mCons (mC (.str "rel")) (mCons (mV 4) (mCons (mTup mNil) mNil))))) xNil)))))
  sSkip)
  (sSeq (sIf (mTest (mBin eqM (mV 6) (mC (.int 2))))
  (sSeq (sApp 1 (mTup (mCons (mLst (mCons (mV 7) mNil)) (mCons (mBin ixM (mBin ixM (mVA 1) (mV 7)) (mC (.int 1))) mNil))))
  (sRetX (xMeth "Hall" "drop" (.o 0) 0 r_Hall_drop (xCons (xE (mV 7)) (xCons (xE (mV 5)) xNil)))))
  sSkip)
  (sSeq (sIf (mTest (mBin eqM (mV 6) (mC (.int 3))))
  (sSeq (sApp 1 (mTup (mCons (mLst (mCons (mV 7) mNil)) (mCons (mBin ixM (mBin ixM (mVA 1) (mV 7)) (mC (.int 1))) mNil))))
  (sRetX (xMeth "Hall" "more" (.o 0) 0 r_Hall_more (xCons (xE (mV 7)) (xCons (xE (mV 5)) xNil)))))
  sSkip)
  (sSeq (sAsgX 8 (xBin ixM (xMeth "Hall" "told" (.r 0) 0 r_Hall_told (xCons (xE (mV 7)) xNil)) (xE (mC (.int 1)))))
  (sSeq (sApp 1 (mTup (mCons (mLst mNil) (mCons (mLst mNil) mNil))))
  (sSeq (sAsg 9 (mBin subM (mUn lenM (mVA 1)) (mC (.int 1))))
  (sSeq (sDoX (xMeth "Hall" "assume" (.o 0) 0 r_Hall_assume (xCons (xE (mTup (mCons (mC (.str "if")) (mCons (mV 8) (mCons (mTup (mCons (mC (.str "no")) mNil)) mNil))))) xNil)))
  (sSeq (sApp 1 (mTup (mCons (mLst (mCons (mV 9) (mCons (mV 7) mNil))) (mCons (mBin ixM (mBin ixM (mVA 1) (mV 7)) (mC (.int 1))) mNil))))
  (sRetX (xMeth "Hall" "apply" (.o 0) 0 r_Hall_apply (xCons (xE (mV 9)) (xCons (xE (mV 7)) xNil))))))))))))))))
def more_l_m : FM := runF 10 5 (more_l_b Hall_assume_m Hall_axiom_m Hall_drop_m Hall_more_m Hall_told_m Hall_apply_m)
def N_rows_like_b_l : List Str := ["found", "due", "one", "other"]
def rows_like_b_l_b (r_like_l : FM) : MS :=
  (sSeq (sIf (mOrT (mNotT (mTest (mUn (isiM "list") (mVA 0)))) (mTest (mBin neM (mUn lenM (mVA 0)) (mUn lenM (mVA 1)))))
  (sRet (mC (.bool false)))
  sSkip)
  (sSeq (sForZ 2 3 (mZB 0) (mZB 1)
  (sIf (mNotT (mTest (mCall [true, true] r_like_l (mCons (mV 2) (mCons (mV 3) mNil)))))
  (sRet (mC (.bool false)))
  sSkip))
  (sRet (mC (.bool true)))))
def rows_like_b_l_m : FM := runF 4 2 (rows_like_b_l_b (like_l_m 140))
def N_right_l : List Str := ["hall", "rows", "number", "stood", "bases", "under", "kept", "again"]
def right_l_b (r_Hall_stood : FM) (r_Hall_bases : FM) (r_rows_like_b_l : FM) (r_stood_l : FM) (r_Hall_told : FM) (r_rows_like_l : FM) : MS :=
  (sSeq (sNewM 3 "Hall" "stood" 0 r_Hall_stood (mCons (mV 2) mNil))
  (sSeq (sNewM 4 "Hall" "bases" 0 r_Hall_bases (mCons (mV 2) mNil))
  (sSeq (sIf (mOrT (mNotT (mTest (mCall [false, false] r_rows_like_b_l (mCons (mVA 3) (mCons (mCall [false, true] r_stood_l (mCons (mVA 1) (mCons (mV 2) mNil))) mNil))))) (mNotT (mTest (mCall [false, false] r_rows_like_b_l (mCons (mVA 4) (mCons (mBin ixM (mBin ixM (mVA 1) (mV 2)) (mC (.int 1))) mNil))))))
  (sRet (mC (.bool false)))
  sSkip)
  (sSeq (sNewM 5 "Hall" "told" 0 r_Hall_told (mCons (mV 2) mNil))
  (sSeq (sAsg 6 (mUn listM (mPr0 5)))
  (sSeq (sApp 3 (mC (.int 99)))
  (sSeq (sApp 4 (mC (.int 99)))
  (sSeq (sAppPr 5 (mTup (mCons (mC (.str "no")) mNil)))
  (sSeq (sAsgX 7 (xMeth "Hall" "told" (.r 0) 0 r_Hall_told (xCons (xE (mV 2)) xNil)))
  (sRetX (xAndV (xE (mCall [true, true] r_rows_like_l (mCons (mBin ixM (mV 7) (mC (.int 0))) (mCons (mV 6) mNil)))) (xCall r_rows_like_l (xCons (xMeth "Hall" "stood" (.r 0) 0 r_Hall_stood (xCons (xE (mV 2)) xNil)) (xCons (xE (mCall [false, true] r_stood_l (mCons (mVA 1) (mCons (mV 2) mNil)))) xNil))))))))))))))
def right_l_m : FM := runF 8 3 (right_l_b Hall_stood_m Hall_bases_m rows_like_b_l_m stood_l_m Hall_told_m rows_like_l_m)
def N_Hall_init : List Str := ["self"]
def Hall_init_b  : MS :=
  (sSeq (sAttrL 0 "Hall" "seals" (mLst mNil))
  (sAttrL 0 "Hall" "ground" (mLst mNil)))
def Hall_init_m : FM := runF 1 1 (Hall_init_b )
def N_Hall_many : List Str := ["self"]
def Hall_many_b  : MS :=
  (sRet (mUn lenM (mAttrL 0 "Hall" "seals")))
def Hall_many_m : FM := runF 1 1 (Hall_many_b )
def N_Hall_axioms : List Str := ["self"]
def Hall_axioms_b  : MS :=
  (sRet (mUn listM (mAttrL 0 "Hall" "ground")))
def Hall_axioms_m : FM := runF 1 1 (Hall_axioms_b )
def N_law_k11 : List Str := ["script", "name", "halls", "rows", "axioms", "cell", "seed", "side", "many", "found", "k", "last"]
def law_k11_b (r_name_by_l : FM) (r_cell_at_l : FM) (r_Hall_init : FM) (r_next_l : FM) (r_no_seal_l : FM) (r_more_l : FM) (r_whole_l : FM) (r_right_l : FM) (r_Hall_many : FM) (r_rows_like_b_l : FM) (r_Hall_axioms : FM) : MS :=
  (sSeq (sAsg 1 (mCall [true] r_name_by_l (mCons (mCall [false, true] r_cell_at_l (mCons (mVA 0) (mCons (mC (.int 0)) mNil))) mNil)))
  (sSeq (sMk2 2 "Hall" r_Hall_init)
  (sSeq (sTwoL 3)
  (sSeq (sTwoL 4)
  (sSeq (sFor 5 (mIt (mSl (mVA 0) (mSome (mC (.int 1))) (mSome (mC (.int 11)))))
  (sSeq (sAsg 6 (mCall [true] r_next_l (mCons (mV 5) mNil)))
  (sSeq (sAsg 7 (mBin modM (mV 6) (mC (.int 2))))
  (sSeq (sAsg 8 (mUn lenM (mAt2 3 (mV 7))))
  (sSeq (sIfX (xOrT (xNotT (xTest (xCallP 2 3 4 r_no_seal_l (mpR 0 2 (mV 7) (mpD (mV 8) mpNil))))) (xNotT (xTest (xCallP 2 3 4 r_no_seal_l (mpR 0 2 (mV 7) (mpD (mBin subM (mUn negM (mC (.int 1))) (mBin modM (mBin divM (mV 6) (mC (.int 2))) (mC (.int 3)))) mpNil))))))
  (sRet (mC (.bool false)))
  sSkip)
  (sSeq (sAsgX 9 (xCallP 2 3 4 r_more_l (mpO 0 2 (mV 7) (mpO 1 3 (mV 7) (mpO 2 4 (mV 7) (mpD (mBin divM (mV 6) (mC (.int 8))) (mpD (mV 1) mpNil)))))))
  (sSeq (sIf (mNotT (mTest (mCall [true, true] r_whole_l (mCons (mV 9) (mCons (mBin subM (mUn lenM (mAt2 3 (mV 7))) (mC (.int 1))) mNil)))))
  (sRet (mC (.bool false)))
  sSkip)
  (sFor 10 (mR1 (mC (.int 2)))
  (sSeq (sAsg 11 (mBin modM (mBin divM (mV 6) (mC (.int 16))) (mBin maxM (mC (.int 1)) (mUn lenM (mAt2 3 (mV 10))))))
  (sSeq (sIfX (xAndT (xT (mTest (mBin gtM (mUn lenM (mAt2 3 (mV 10))) (mC (.int 0))))) (xNotT (xTest (xCallP 2 3 4 r_right_l (mpR 0 2 (mV 10) (mpB 1 3 (mV 10) (mpD (mV 11) mpNil)))))))
  (sRet (mC (.bool false)))
  sSkip)
  (sSeq (sIf (mNotT (mTest (mCall [true, true] r_whole_l (mCons (mMeth2 "Hall" "many" 2 (mV 10) r_Hall_many) (mCons (mUn lenM (mAt2 3 (mV 10))) mNil)))))
  (sRet (mC (.bool false)))
  sSkip)
  (sSeq (sIf (mNotT (mTest (mCall [false, false] r_rows_like_b_l (mCons (mMeth2 "Hall" "axioms" 2 (mV 10) r_Hall_axioms) (mCons (mAt2 4 (mV 10)) mNil)))))
  (sRet (mC (.bool false)))
  sSkip)
  (sAppNew (mMeth2N "Hall" "axioms" 2 (mV 10) r_Hall_axioms) (mTup (mCons (mC (.str "no")) mNil)))))))))))))))
  (sRet (mC (.bool true))))))))
def law_k11_m : FM := runF 12 1 (law_k11_b name_by_l_m cell_at_l_m Hall_init_m next_l_m no_seal_l_m more_l_m whole_l_m right_l_m Hall_many_m rows_like_b_l_m Hall_axioms_m)
end PL

namespace PL
open PySem PySem.Spec PyProof.Rows L2
/-! words: terms and forms -/
inductive Wd where
  | var (n : Int) | no | fn (x : Str) (ps : List Wd) | rel (x : Str) (ps : List Wd) | same (a b : Wd) | iff (a b : Wd) | all (a : Wd)
namespace Wd
mutual
def data : Wd → PyData
  | .var n => .tuple [.str "var", .int n]
  | .no => .tuple [.str "no"]
  | .fn x ps => .tuple [.str "fun", .str x, .tuple (datas ps)]
  | .rel x ps => .tuple [.str "rel", .str x, .tuple (datas ps)]
  | .same a b => .tuple [.str "same", data a, data b]
  | .iff a b => .tuple [.str "if", data a, data b]
  | .all a => .tuple [.str "all", data a]
def datas : List Wd → List PyData
  | [] => []
  | w :: ws => data w :: datas ws
end
mutual
def lay : Wd → Nat
  | .var _ => 1
  | .no => 1
  | .fn _ ps => lays ps + 1
  | .rel _ ps => lays ps + 1
  | .same a b => max (lay a) (lay b) + 1
  | .iff a b => max (lay a) (lay b) + 1
  | .all a => lay a + 1
def lays : List Wd → Nat
  | [] => 0
  | w :: ws => max (lay w) (lays ws)
end
def kids : Wd → List Wd
  | .fn _ ps => ps
  | .rel _ ps => ps
  | .same a b => [a, b]
  | .iff a b => [a, b]
  | .all a => [a]
  | _ => []
def tag : Wd → Str
  | .var _ => "var"
  | .no => "no"
  | .fn _ _ => "fun"
  | .rel _ _ => "rel"
  | .same _ _ => "same"
  | .iff _ _ => "if"
  | .all _ => "all"
def isVar : Wd → Bool
  | .var _ => true
  | _ => false
def isNo : Wd → Bool
  | .no => true
  | _ => false
def isIff : Wd → Bool
  | .iff _ _ => true
  | _ => false
def isAll : Wd → Bool
  | .all _ => true
  | _ => false
theorem datas_map : ∀ ws, datas ws = ws.map data
  | [] => rfl
  | w :: ws => by rw [datas, datas_map ws]; rfl
theorem datas_len (ws : List Wd) : (datas ws).length = ws.length := by rw [datas_map, List.length_map]
theorem datas_app (ws us : List Wd) : datas (ws ++ us) = datas ws ++ datas us := by rw [datas_map, datas_map, datas_map, List.map_append]
theorem lay_pos (w : Wd) : 1 ≤ w.lay := by cases w <;> simp [lay]
theorem le_lays : ∀ {ws : List Wd} {w : Wd}, w ∈ ws → w.lay ≤ lays ws
  | _ :: _, _, .head _ => by rw [lays]; omega
  | _ :: _, _, .tail _ h => by rw [lays]; have := le_lays h; omega
theorem lays_le : ∀ {ws : List Wd} {n : Nat}, (∀ w ∈ ws, w.lay ≤ n) → lays ws ≤ n
  | [], _, _ => by simp [lays]
  | w :: ws, n, h => by
    rw [lays]
    have h1 := h w (.head _)
    have h2 := lays_le (ws := ws) (n := n) fun u hu => h u (.tail _ hu)
    omega
theorem kids_lay {w k : Wd} (h : k ∈ w.kids) : k.lay < w.lay := by
  cases w with
  | fn x ps => have := le_lays (show k ∈ ps from h); simp only [lay]; omega
  | rel x ps => have := le_lays (show k ∈ ps from h); simp only [lay]; omega
  | same a b => simp [kids] at h; simp only [lay]; rcases h with rfl | rfl <;> omega
  | iff a b => simp [kids] at h; simp only [lay]; rcases h with rfl | rfl <;> omega
  | all a => simp [kids] at h; simp only [lay]; subst h; omega
  | _ => simp [kids] at h
theorem lay_kids (w : Wd) : w.lay = lays w.kids + 1 := by
  cases w <;> simp only [lay, kids, lays] <;> omega
theorem kids_le {w k : Wd} {n : Nat} (hl : w.lay ≤ n + 1) (h : k ∈ w.kids) : k.lay ≤ n := by have := kids_lay h; omega
theorem isVar_eq {w : Wd} (h : w.isVar = true) : ∃ n, w = .var n := by cases w <;> first | exact ⟨_, rfl⟩ | cases h
/-! maps over vars, by the depth -/
def dep (w : Wd) (d : Int) : Int := if w.isAll then d + 1 else d
mutual
def vmap (f : Int → Int → Wd) : Wd → Int → Wd
  | .var n, d => f d n
  | .no, _ => .no
  | .fn x ps, d => .fn x (vmaps f ps d)
  | .rel x ps, d => .rel x (vmaps f ps d)
  | .same a b, d => .same (vmap f a d) (vmap f b d)
  | .iff a b, d => .iff (vmap f a d) (vmap f b d)
  | .all a, d => .all (vmap f a (d + 1))
def vmaps (f : Int → Int → Wd) : List Wd → Int → List Wd
  | [], _ => []
  | w :: ws, d => vmap f w d :: vmaps f ws d
end
theorem vmaps_map (f : Int → Int → Wd) (d : Int) : ∀ ws, vmaps f ws d = ws.map (vmap f · d)
  | [] => rfl
  | w :: ws => by rw [vmaps, vmaps_map f d ws]; rfl
end Wd
theorem sSkip_ap (ρ : Rho) : sSkip ρ = .nx ρ := rfl
/-! ### ints -/
theorem subM_i (i j : Int) : subM (.int i) (.int j) = some (.int (i - j)) := rfl
theorem ltM_i (i j : Int) : ltM (.int i) (.int j) = some (.bool (decide (i < j))) := rfl
theorem leM_i (i j : Int) : leM (.int i) (.int j) = some (.bool (decide (i ≤ j))) := rfl
theorem gtM_i (i j : Int) : gtM (.int i) (.int j) = some (.bool (decide (j < i))) := rfl
theorem geM_i (i j : Int) : geM (.int i) (.int j) = some (.bool (decide (j ≤ i))) := rfl
/-! ### the tags -/
open Wd
theorem ix0 (w : Wd) : ixM w.data (.int 0) = some (.str w.tag) := by cases w <;> kernel_rfl
theorem tg_var (w : Wd) : eqM (.str w.tag) (.str "var") = some (.bool w.isVar) := by cases w <;> kernel_rfl
theorem parts_fn (w : Wd) : parts_of_m [.d w.data] = .ret (.list (datas w.kids)) [] := by cases w <;> kernel_rfl
theorem inward_fn (w : Wd) (n : Int) : inward_m [.d w.data, .d (.int n)] = .ret (.int (w.dep n)) [] := by cases w <;> kernel_rfl
/-! ### comprehensions and loops of mirrors -/
theorem forL_rng {i n : Nat} {body : MS} {lo : Int} (I : Nat → Rho → Prop) (h : ∀ j ρ, j < n → I j ρ → isO ρ[i]? = false ∧ ∃ ρ', body (ρ.set i (.d (.int (lo + (j : Int))))) = .nx ρ' ∧ I (j + 1) ρ') :
    ∀ ρ, I 0 ρ → ∃ ρ', forL i body (rngD lo n) ρ = .nx ρ' ∧ I n ρ' := by
  have main : ∀ m j ρ, m + j = n → I j ρ → ∃ ρ', forL i body ((rngD lo n).drop j) ρ = .nx ρ' ∧ I n ρ' := by
    intro m
    induction m with
    | zero =>
      intro j ρ e hI
      have e : j = n := by omega
      subst e
      rw [List.drop_eq_nil_of_le (by rw [rngD_len]; exact Nat.le_refl _)]
      exact ⟨ρ, rfl, hI⟩
    | succ m ih =>
      intro j ρ e hI
      have hj : j < n := by omega
      obtain ⟨ho, ρ', hb, hI'⟩ := h j ρ hj hI
      obtain ⟨ρ2, h2, hI2⟩ := ih (j + 1) ρ' (by omega) hI'
      refine ⟨ρ2, ?_, hI2⟩
      rw [drop_cons (rngD_get hj), forL, ho, hb]
      exact h2
  intro ρ hI
  have := main n 0 ρ rfl hI
  rwa [List.drop_zero] at this
end PL

namespace PL
open PySem PySem.Spec PyProof.Rows L2
/-! ### how a mirror's statement ends -/
def Ends (s : MS) (ρ : Rho) (Q : Out → Prop) : Prop := Q (s ρ)
theorem Ends.nx {a b : MS} {ρ ρ' : Rho} {Q : Out → Prop} (h : a ρ = .nx ρ') (k : Ends b ρ' Q) : Ends (sSeq a b) ρ Q := by
  unfold Ends sSeq; rw [h]; exact k
theorem Ends.last {a : MS} {ρ : Rho} {o : Out} {Q : Out → Prop} (h : a ρ = o) (k : Q o) : Ends a ρ Q := by unfold Ends; rw [h]; exact k
/-- a statement that goes on, into one of many -/
theorem Ends.go {a b : MS} {ρ : Rho} {Q : Out → Prop} (I : Rho → Prop) (h : Ends a ρ fun o => ∃ ρ', o = .nx ρ' ∧ I ρ') (k : ∀ ρ', I ρ' → Ends b ρ' Q) : Ends (sSeq a b) ρ Q := by
  obtain ⟨ρ', e, hI⟩ := h
  exact .nx e (k ρ' hI)
/-- a statement that goes on or ends all -/
theorem Ends.seq {a b : MS} {ρ : Rho} {Q : Out → Prop} (h : Ends a ρ fun o => (∃ ρ', o = .nx ρ' ∧ Ends b ρ' Q) ∨ ((∀ ρ', o ≠ .nx ρ') ∧ Q o)) : Ends (sSeq a b) ρ Q := by
  rcases h with ⟨ρ', e, k⟩ | ⟨h1, h2⟩
  · exact .nx e k
  · unfold Ends sSeq
    generalize a ρ = o at h1 h2
    cases o with
    | nx ρ' => exact absurd rfl (h1 ρ')
    | _ => exact h2
theorem Ends.mono {a : MS} {ρ : Rho} {Q R : Out → Prop} (h : Ends a ρ Q) (k : ∀ o, Q o → R o) : Ends a ρ R := k _ h
theorem Ends.ite {t : MT} {a b : MS} {ρ : Rho} {c : Bool} {Q : Out → Prop} (h : t ρ = some c) (h1 : c = true → Ends a ρ Q) (h2 : c = false → Ends b ρ Q) : Ends (sIf t a b) ρ Q := by
  unfold Ends sIf; rw [h]
  cases c
  · exact h2 rfl
  · exact h1 rfl
theorem Ends.skip {ρ : Rho} {Q : Out → Prop} (h : Q (.nx ρ)) : Ends sSkip ρ Q := h
theorem Ends.forL {α : Type} {i : Nat} {body : MS} {g : α → PyData} {all : List α} {Q : Out → Prop} (I : List α → Rho → Prop)
    (h : ∀ vs u us ρ, vs ++ u :: us = all → I vs ρ → isO ρ[i]? = false ∧ Ends body (ρ.set i (.d (g u))) fun o => (∃ ρ', (o = .nx ρ' ∨ o = .ct ρ') ∧ I (vs ++ [u]) ρ') ∨ (∃ ρ', o = .bk ρ' ∧ Q (.nx ρ')) ∨ (∃ d ρ', o = .rt d ρ' ∧ Q o) ∨ (∃ c ρ', o = .ex c ρ' ∧ Q o))
    (hq : ∀ ρ', I all ρ' → Q (.nx ρ')) : ∀ (us vs : List α) (ρ : Rho), vs ++ us = all → I vs ρ → Q (forL i body (us.map g) ρ)
  | [], vs, ρ, e, hI => by rw [List.append_nil] at e; subst e; exact hq ρ hI
  | u :: us, vs, ρ, e, hI => by
    obtain ⟨ho, hb⟩ := h vs u us ρ e hI
    unfold Ends at hb
    rw [List.map_cons, PL.forL, ho]
    generalize hbo : body (ρ.set i (.d (g u))) = o at hb
    rcases hb with ⟨ρ', e' | e', hI'⟩ | ⟨ρ', rfl, hq'⟩ | ⟨d, ρ', rfl, hq'⟩ | ⟨c, ρ', rfl, hq'⟩
    · subst e'; exact Ends.forL I h hq us (vs ++ [u]) ρ' (by rw [List.append_assoc]; exact e) hI'
    · subst e'; exact Ends.forL I h hq us (vs ++ [u]) ρ' (by rw [List.append_assoc]; exact e) hI'
    · exact hq'
    · exact hq'
    · exact hq'
/-- a for that may end early -/
theorem Ends.forE {α : Type} {i : Nat} {src : ML} {body : MS} {g : α → PyData} {all : List α} {ρ : Rho} {Q : Out → Prop} (I : List α → Rho → Prop) (hs : src ρ = some (all.map g)) (h0 : I [] ρ)
    (h : ∀ vs u us ρ, vs ++ u :: us = all → I vs ρ → isO ρ[i]? = false ∧ Ends body (ρ.set i (.d (g u))) fun o => (∃ ρ', (o = .nx ρ' ∨ o = .ct ρ') ∧ I (vs ++ [u]) ρ') ∨ (∃ ρ', o = .bk ρ' ∧ Q (.nx ρ')) ∨ (∃ d ρ', o = .rt d ρ' ∧ Q o) ∨ (∃ c ρ', o = .ex c ρ' ∧ Q o))
    (hq : ∀ ρ', I all ρ' → Q (.nx ρ')) : Ends (sFor i src body) ρ Q := by
  unfold Ends sFor; rw [hs]; exact Ends.forL I h hq all [] ρ rfl h0
/-- a for that goes through all -/
theorem Ends.forG {α : Type} {i : Nat} {src : ML} {body : MS} {g : α → PyData} {all : List α} {ρ : Rho} {Q : Out → Prop} (I : List α → Rho → Prop) (hs : src ρ = some (all.map g)) (h0 : I [] ρ)
    (h : ∀ vs u us ρ, vs ++ u :: us = all → I vs ρ → isO ρ[i]? = false ∧ Ends body (ρ.set i (.d (g u))) fun o => ∃ ρ', o = .nx ρ' ∧ I (vs ++ [u]) ρ')
    (hq : ∀ ρ', I all ρ' → Q (.nx ρ')) : Ends (sFor i src body) ρ Q :=
  .forE I hs h0 (fun vs u us ρ e hI => ⟨(h vs u us ρ e hI).1, (h vs u us ρ e hI).2.mono fun o ⟨ρ', e, h⟩ => .inl ⟨ρ', .inl e, h⟩⟩) hq
/-- a for over a range -/
theorem Ends.forR {i n : Nat} {lo : Int} {src : ML} {body : MS} {ρ : Rho} {Q : Out → Prop} (I : Nat → Rho → Prop) (hs : src ρ = some (rngD lo n)) (h0 : I 0 ρ)
    (h : ∀ j ρ, j < n → I j ρ → isO ρ[i]? = false ∧ Ends body (ρ.set i (.d (.int (lo + (j : Int))))) fun o => ∃ ρ', o = .nx ρ' ∧ I (j + 1) ρ')
    (hq : ∀ ρ', I n ρ' → Q (.nx ρ')) : Ends (sFor i src body) ρ Q :=
  .forG (α := Nat) (g := fun j => .int (lo + (j : Int))) (all := List.range n) (fun vs ρ => I vs.length ρ) hs h0 (fun vs j us ρ e hI => by
    have hl := congrArg List.length e
    rw [List.length_append, List.length_cons, List.length_range] at hl
    have hj : j = vs.length := by
      have : (List.range n)[vs.length]? = some j := by rw [← e]; simp
      rw [List.getElem?_range (by omega)] at this
      exact (Option.some.inj this).symm
    subst hj
    rw [List.length_append, List.length_singleton]
    exact h _ ρ (by omega) hI) (fun ρ' hI => hq ρ' (by rwa [List.length_range] at hI))
theorem forL_any {α : Type} {i : Nat} {body : MS} {g : α → PyData} {p : α → Bool} {r : PyData} (I : Rho → Prop) : ∀ (us : List α) (ρ : Rho), I ρ → (∀ u ∈ us, ∀ ρ, I ρ → isO ρ[i]? = false ∧ ∃ ρ', I ρ' ∧ body (ρ.set i (.d (g u))) = if p u = true then .rt r ρ' else .nx ρ') →
    ∃ ρ', I ρ' ∧ forL i body (us.map g) ρ = if us.any p = true then .rt r ρ' else .nx ρ'
  | [], ρ, hI, _ => ⟨ρ, hI, rfl⟩
  | u :: us, ρ, hI, h => by
    obtain ⟨ho, ρ', hI', hb⟩ := h u (.head _) ρ hI
    rw [List.map_cons, forL, ho, hb]
    cases hp : p u with
    | true => exact ⟨ρ', hI', by simp [hp]⟩
    | false =>
      obtain ⟨ρ2, hI2, h2⟩ := forL_any I us ρ' hI' fun u hu => h u (.tail _ hu)
      exact ⟨ρ2, hI2, by simp [hp, h2]⟩
/-- while, by a measure -/
theorem Ends.whl {t : MT} {body : MS} {Q : Out → Prop} (I : Nat → Rho → Prop)
    (h : ∀ m ρ, I m ρ → (t ρ = some false ∧ Q (.nx ρ)) ∨ (t ρ = some true ∧ Ends body ρ fun o => (∃ ρ' m', (o = .nx ρ' ∨ o = .ct ρ') ∧ m' < m ∧ I m' ρ') ∨ (∃ ρ', o = .bk ρ' ∧ Q (.nx ρ')) ∨ (∃ d ρ', o = .rt d ρ' ∧ Q o) ∨ (∃ c ρ', o = .ex c ρ' ∧ Q o))) :
    ∀ (f m : Nat) (ρ : Rho), m < f → I m ρ → Ends (whileL t body f) ρ Q := by
  intro f
  induction f with
  | zero => intro m ρ hm; omega
  | succ f ih =>
    intro m ρ hm hI
    unfold Ends whileL
    rcases h m ρ hI with ⟨e, hq⟩ | ⟨e, hb⟩
    · rw [e]; exact hq
    · rw [e]
      unfold Ends at hb
      generalize hbo : body ρ = o at hb
      rcases hb with ⟨ρ', m', e' | e', hm', hI'⟩ | ⟨ρ', rfl, hq'⟩ | ⟨d, ρ', rfl, hq'⟩ | ⟨c, ρ', rfl, hq'⟩
      · subst e'; exact ih m' ρ' (by omega) hI'
      · subst e'; exact ih m' ρ' (by omega) hI'
      · exact hq'
      · exact hq'
      · exact hq'
theorem Ends.ret {m : ME} {ρ : Rho} {d : PyData} {Q : Out → Prop} (h : m ρ = some d) (k : Q (.rt d ρ)) : Ends (sRet m) ρ Q := by unfold Ends sRet; rw [h]; exact k
/-! what a def ends with -/
def fin (args : List Sl) : Out → FOut
  | .nx ρ => .ret .none (outs args ρ)
  | .rt d ρ => .ret d (outs args ρ)
  | .ex c ρ => .ex c (outs args ρ)
  | _ => .stuck
theorem runF_fin {n np : Nat} {m : MS} {args : List Sl} (h : args.length = np) : runF n np m args = fin args (m (args ++ List.replicate (n - np) .nil)) := by
  unfold runF fin
  rw [if_pos h] <;> (generalize m _ = o; cases o <;> rfl)
theorem ends_run {n np : Nat} {m : MS} {args : List Sl} (h : args.length = np) (Q : FOut → Prop) (k : Ends m (args ++ List.replicate (n - np) .nil) fun o => Q (fin args o)) : Q (runF n np m args) := by
  rw [runF_fin h]; exact k
/-- a law that says True -/
def Yes : Out → Prop := fun o => ∃ ρ, o = .rt (.bool true) ρ
theorem Ends.yes {m : ME} {ρ : Rho} (h : m ρ = some (.bool true)) : Ends (sRet m) ρ Yes := .ret h ⟨_, rfl⟩
theorem law_yes {n : Nat} {m : MS} {a : Sl} (k : Ends m ([a] ++ List.replicate (n - 1) .nil) Yes) : ∃ obs, runF n 1 m [a] = .ret (.bool true) obs := by
  obtain ⟨ρ, e⟩ := k
  rw [runF_fin (np := 1) (args := [a]) rfl, e]
  exact ⟨_, rfl⟩
/-- a def of data alone -/
theorem fn_ret {n np : Nat} {m : MS} {args : List Sl} {d : PyData} (h : args.length = np) (hd : ∀ s ∈ args, isO (some s) = false) (k : Ends m (args ++ List.replicate (n - np) .nil) fun o => ∃ ρ, o = .rt d ρ) : runF n np m args = .ret d [] := by
  obtain ⟨ρ, e⟩ := k
  rw [runF_fin h, e]
  unfold fin
  congr 1
  clear e h
  induction args generalizing ρ with
  | nil => cases ρ <;> rfl
  | cons a as ih =>
    have ha := hd a (.head _)
    have ih := fun ρ => ih (fun s hs => hd s (.tail _ hs)) ρ
    cases ρ with
    | nil => cases a <;> rfl
    | cons b ρ => cases a <;> first | exact ih ρ | cases ha
end PL

namespace PL
open PySem PySem.Spec PyProof.Rows L2
open Wd
/-! ### comparing -/
theorem eqM_int (i j : Int) : eqM (.int i) (.int j) = some (.bool (decide (i = j))) := by
  have h : eqM (.int i) (.int j) = some (.bool (i == j)) := by
    unfold eqM
    rw [if_pos ⟨by rfl, by rfl, by simp only [PyData.depth]; decide⟩]
    simp only [PyData.eqv]
  rw [h]
  rfl
theorem eqM_str {x y : Str} (hx : PyData.strOk x = true) (hy : PyData.strOk y = true) : eqM (.str x) (.str y) = some (.bool (decide (x = y))) := by
  have h : eqM (.str x) (.str y) = some (.bool (x == y)) := by
    unfold eqM
    rw [if_pos ⟨by simpa only [PyData.canLay0] using hx, by simpa only [PyData.canLay0] using hy, by simp only [PyData.depth]; decide⟩]
    simp only [PyData.eqv]
  rw [h]
  by_cases e : x = y
  · subst e; simp
  · simp [e]
theorem neM_int (i j : Int) : neM (.int i) (.int j) = some (.bool (!decide (i = j))) := by
  have h : neM (.int i) (.int j) = some (.bool (!(i == j))) := by
    unfold neM
    rw [if_pos ⟨by rfl, by rfl, by simp only [PyData.depth]; decide⟩]
    simp only [PyData.eqv]
  rw [h]
  rfl
/-! ### names -/
structure Nm (x : Str) : Prop where
  pos : 1 ≤ x.length
  le : x.length ≤ 12
  low : ∀ c ∈ x.cps.toList, 97 ≤ c ∧ c ≤ 122
theorem low_ok {x : Str} (h : ∀ c ∈ x.cps.toList, 97 ≤ c ∧ c ≤ 122) : PyData.strOk x = true := by
  unfold PyData.strOk
  rw [← Array.all_toList]
  exact List.all_eq_true.mpr fun c hc => by have := h c hc; simp; omega
theorem Nm.ok {x : Str} (h : Nm x) : PyData.strOk x = true := low_ok h.low
/-! ### small helpers of the laws -/
theorem mul_ok {i c : Int} (h1 : -(2 ^ 64) < c) (h2 : c < 2 ^ 64) : mulM (.int i) (.int c) = some (.int (i * c)) := by
  show (if _ ∨ _ then _ else _) = _
  rw [if_pos (.inr ⟨h1, h2⟩)]
theorem div_ok {i j : Int} (h1 : 0 < j) (h2 : j < 1073741824) : divM (.int i) (.int j) = some (.int (i / j)) := by
  show (if _ ∧ _ then _ else _) = _
  rw [if_pos ⟨h1, h2⟩]
theorem mod_ok {i j : Int} (h1 : 0 < j) : modM (.int i) (.int j) = some (.int (i % j)) := by
  show (if _ then _ else _) = _
  rw [if_pos h1]
def nextI (i : Int) : Int := (i * 48271 + 12345) % 2147483647
theorem next_fn (i : Int) : next_l_m [.d (.int i)] = .ret (.int (nextI i)) [] := by
  simp only [next_l_m, next_l_b, runF, sSeq, sIf, sRet, sAsg, sNew, sApp, sSkip_ap, sFor, sForZ, mCall, mCons, mNil, mV, mVA, mC, mBin, mUn, mTest, mAndT, mOrT, mNotT, mAnd, mOr, mNot, mBl, bl?, mIf, mTup, mLst, mSl, mSome, mNo, mComp, mIt, mItB, mR1, mR2, mR1c, mZ, mZB, mYes, mkArgs, outs, itemsOf, isO, listM, tupleM, lenM, intM, subM_i, ltM_i, leM_i, gtM_i, geM_i, addM, Option.bind_some, Option.bind_none, Option.map_some, Option.map_none, List.length_cons, List.length_nil, List.getElem?_cons_zero, List.getElem?_cons_succ, List.set_cons_zero, List.set_cons_succ, List.cons_append, List.nil_append, List.append_nil, List.replicate, if_true, if_false, Nat.reduceAdd, Nat.reduceSub, Nat.reduceLeDiff, Nat.reduceEqDiff, reduceIte, Bool.false_eq_true, reduceCtorEq, Bool.not_true, Bool.not_false, decide_true, decide_false, id, mul_ok (i := i) (c := 48271) (by decide) (by decide), mod_ok (i := i * 48271 + 12345) (j := 2147483647) (by decide), nextI]
def letters : Str := "abcdefghijklmnopqrstuvwxyz"
theorem letters_cps : letters.cps.toList = (List.range 26).map (97 + ·) := by decide +kernel
theorem ix_letter {i : Int} (h0 : 0 ≤ i) (h : i < 26) : ixM (.str "abcdefghijklmnopqrstuvwxyz") (.int i) = some (.str ⟨#[97 + i.toNat]⟩) := by
  have e : ixM (.str letters) (.int i) = (atI letters.cps.toList i).map fun c => .str ⟨#[c]⟩ := by
    have hl : letters.length ≤ sizeLine := by decide +kernel
    exact @if_pos (letters.length ≤ sizeLine) _ hl (Option PyData) _ none
  refine Eq.trans e ?_
  rw [letters_cps]
  have hn : i = (i.toNat : Int) := by omega
  have hg : ((List.range 26).map (97 + ·))[i.toNat]? = some (97 + i.toNat) := by
    rw [List.getElem?_map, List.getElem?_range (by omega)]
    rfl
  have := atI_nat hg
  rw [← hn] at this
  rw [this]
  rfl
theorem name_fn (c : Int) : ∃ x, name_by_l_m [.d (.int c)] = .ret (.str x) [] ∧ Nm x := by
  have key := forL_rng (i := 3) (n := (1 + c % 12).toNat) (lo := 0) (body := sSeq (sAsg 2 (mBin addM (mV 2) (mBin ixM (mC (.str "abcdefghijklmnopqrstuvwxyz")) (mBin modM (mBin divM (mV 1) (mC (.int 64))) (mC (.int 26))))))
      (sAsg 1 (mCall [true] next_l_m (mCons (mV 1) mNil))))
    (fun j ρ => ∃ s x k, ρ = [.d (.int c), .d (.int s), .d (.str x), k] ∧ isO (some k) = false ∧ x.length = j ∧ ∀ c ∈ x.cps.toList, 97 ≤ c ∧ c ≤ 122)
    (by
      rintro j ρ hj ⟨s, x, k, rfl, hk, hl, hx⟩
      refine ⟨hk, ?_⟩
      have e := ix_letter (i := s / 64 % 26) (by omega) (by omega)
      refine ⟨_, ?_, nextI s, x ++ ⟨#[97 + (s / 64 % 26).toNat]⟩, .d (.int (0 + (j : Int))), rfl, rfl, ?_, ?_⟩
      · simp only [runF, sSeq, sIf, sRet, sAsg, sNew, sApp, sSkip_ap, sFor, sForZ, mCall, mCons, mNil, mV, mVA, mC, mBin, mUn, mTest, mAndT, mOrT, mNotT, mAnd, mOr, mNot, mBl, bl?, mIf, mTup, mLst, mSl, mSome, mNo, mComp, mIt, mItB, mR1, mR2, mR1c, mZ, mZB, mYes, mkArgs, outs, itemsOf, isO, listM, tupleM, lenM, intM, subM_i, ltM_i, leM_i, gtM_i, geM_i, addM, Option.bind_some, Option.bind_none, Option.map_some, Option.map_none, List.length_cons, List.length_nil, List.getElem?_cons_zero, List.getElem?_cons_succ, List.set_cons_zero, List.set_cons_succ, List.cons_append, List.nil_append, List.append_nil, List.replicate, if_true, if_false, Nat.reduceAdd, Nat.reduceSub, Nat.reduceLeDiff, Nat.reduceEqDiff, reduceIte, Bool.false_eq_true, reduceCtorEq, Bool.not_true, Bool.not_false, decide_true, decide_false, id, div_ok (i := s) (j := 64) (by decide) (by decide), mod_ok (i := s / 64) (j := 26) (by decide), e, next_fn]
        rw [if_pos (by show x.length + 1 ≤ sizeLine; rw [hl, sizeLine_eq]; omega)]
        simp only [runF, sSeq, sIf, sRet, sAsg, sNew, sApp, sSkip_ap, sFor, sForZ, mCall, mCons, mNil, mV, mVA, mC, mBin, mUn, mTest, mAndT, mOrT, mNotT, mAnd, mOr, mNot, mBl, bl?, mIf, mTup, mLst, mSl, mSome, mNo, mComp, mIt, mItB, mR1, mR2, mR1c, mZ, mZB, mYes, mkArgs, outs, itemsOf, isO, listM, tupleM, lenM, intM, subM_i, ltM_i, leM_i, gtM_i, geM_i, addM, Option.bind_some, Option.bind_none, Option.map_some, Option.map_none, List.length_cons, List.length_nil, List.getElem?_cons_zero, List.getElem?_cons_succ, List.set_cons_zero, List.set_cons_succ, List.cons_append, List.nil_append, List.append_nil, List.replicate, if_true, if_false, Nat.reduceAdd, Nat.reduceSub, Nat.reduceLeDiff, Nat.reduceEqDiff, reduceIte, Bool.false_eq_true, reduceCtorEq, Bool.not_true, Bool.not_false, decide_true, decide_false, id, next_fn]
      · rw [Str.length_append, hl]; rfl
      · intro d hd
        rw [Str.cps_append] at hd
        simp at hd
        rcases hd with hd | rfl
        · exact hx d (by simpa using hd)
        · omega)
    [.d (.int c), .d (.int (nextI c)), .d (.str ""), .nil] ⟨_, _, _, rfl, rfl, rfl, by rw [show (Str.ofString "").cps.toList = [] from by decide +kernel]; intro c hc; cases hc⟩
  obtain ⟨ρ', e, s, x, k, rfl, hk, hl, hx⟩ := key
  refine ⟨x, ?_, by omega, by omega, hx⟩
  simp only [name_by_l_m, name_by_l_b, runF, sSeq, sIf, sRet, sAsg, sNew, sApp, sSkip_ap, sFor, sForZ, mCall, mCons, mNil, mV, mVA, mC, mBin, mUn, mTest, mAndT, mOrT, mNotT, mAnd, mOr, mNot, mBl, bl?, mIf, mTup, mLst, mSl, mSome, mNo, mComp, mIt, mItB, mR1, mR2, mR1c, mZ, mZB, mYes, mkArgs, outs, itemsOf, isO, listM, tupleM, lenM, intM, subM_i, ltM_i, leM_i, gtM_i, geM_i, addM, Option.bind_some, Option.bind_none, Option.map_some, Option.map_none, List.length_cons, List.length_nil, List.getElem?_cons_zero, List.getElem?_cons_succ, List.set_cons_zero, List.set_cons_succ, List.cons_append, List.nil_append, List.append_nil, List.replicate, if_true, if_false, Nat.reduceAdd, Nat.reduceSub, Nat.reduceLeDiff, Nat.reduceEqDiff, reduceIte, Bool.false_eq_true, reduceCtorEq, Bool.not_true, Bool.not_false, decide_true, decide_false, id, next_fn, mod_ok (i := c) (j := 12) (by decide)]
  rw [if_pos (by omega)]
  simp only [e, runF, sSeq, sIf, sRet, sAsg, sNew, sApp, sSkip_ap, sFor, sForZ, mCall, mCons, mNil, mV, mVA, mC, mBin, mUn, mTest, mAndT, mOrT, mNotT, mAnd, mOr, mNot, mBl, bl?, mIf, mTup, mLst, mSl, mSome, mNo, mComp, mIt, mItB, mR1, mR2, mR1c, mZ, mZB, mYes, mkArgs, outs, itemsOf, isO, listM, tupleM, lenM, intM, subM_i, ltM_i, leM_i, gtM_i, geM_i, addM, Option.bind_some, Option.bind_none, Option.map_some, Option.map_none, List.length_cons, List.length_nil, List.getElem?_cons_zero, List.getElem?_cons_succ, List.set_cons_zero, List.set_cons_succ, List.cons_append, List.nil_append, List.append_nil, List.replicate, if_true, if_false, Nat.reduceAdd, Nat.reduceSub, Nat.reduceLeDiff, Nat.reduceEqDiff, reduceIte, Bool.false_eq_true, reduceCtorEq, Bool.not_true, Bool.not_false, decide_true, decide_false, id]
end PL

namespace PL
open PySem PySem.Spec PyProof.Rows L2
open Wd
theorem cell_fn (ns : List Int) {i : Int} (h0 : 0 ≤ i) : ∃ c, cell_at_l_m [.b (ns.map .int), .d (.int i)] = .ret (.int c) [] := by
  by_cases h : i < ((ns.map PyData.int).length : Int)
  · have hl : i.toNat < ns.length := by rw [List.length_map] at h; omega
    refine ⟨ns[i.toNat], ?_⟩
    have hg : (ns.map PyData.int)[i.toNat]? = some (.int ns[i.toNat]) := by rw [List.getElem?_map, List.getElem?_eq_getElem hl]; rfl
    have e := atI_nat hg
    rw [show ((i.toNat : Nat) : Int) = i by omega] at e
    have e2 : ixM (.list (ns.map .int)) (.int i) = some (.int ns[i.toNat]) := e
    simp only [cell_at_l_m, cell_at_l_b, runF, sSeq, sIf, sRet, sAsg, sNew, sApp, sSkip_ap, sFor, sForZ, mCall, mCons, mNil, mV, mVA, mC, mBin, mUn, mTest, mAndT, mOrT, mNotT, mAnd, mOr, mNot, mBl, bl?, mIf, mTup, mLst, mSl, mSome, mNo, mComp, mIt, mItB, mR1, mR2, mR1c, mZ, mZB, mYes, mkArgs, outs, itemsOf, isO, listM, tupleM, lenM, intM, subM_i, ltM_i, leM_i, gtM_i, geM_i, addM, Option.bind_some, Option.bind_none, Option.map_some, Option.map_none, List.length_cons, List.length_nil, List.getElem?_cons_zero, List.getElem?_cons_succ, List.set_cons_zero, List.set_cons_succ, List.cons_append, List.nil_append, List.append_nil, List.replicate, if_true, if_false, Nat.reduceAdd, Nat.reduceSub, Nat.reduceLeDiff, Nat.reduceEqDiff, reduceIte, Bool.false_eq_true, reduceCtorEq, Bool.not_true, Bool.not_false, decide_true, decide_false, id, e2, decide_eq_true h]
  · refine ⟨0, ?_⟩
    simp only [cell_at_l_m, cell_at_l_b, runF, sSeq, sIf, sRet, sAsg, sNew, sApp, sSkip_ap, sFor, sForZ, mCall, mCons, mNil, mV, mVA, mC, mBin, mUn, mTest, mAndT, mOrT, mNotT, mAnd, mOr, mNot, mBl, bl?, mIf, mTup, mLst, mSl, mSome, mNo, mComp, mIt, mItB, mR1, mR2, mR1c, mZ, mZB, mYes, mkArgs, outs, itemsOf, isO, listM, tupleM, lenM, intM, subM_i, ltM_i, leM_i, gtM_i, geM_i, addM, Option.bind_some, Option.bind_none, Option.map_some, Option.map_none, List.length_cons, List.length_nil, List.getElem?_cons_zero, List.getElem?_cons_succ, List.set_cons_zero, List.set_cons_succ, List.cons_append, List.nil_append, List.append_nil, List.replicate, if_true, if_false, Nat.reduceAdd, Nat.reduceSub, Nat.reduceLeDiff, Nat.reduceEqDiff, reduceIte, Bool.false_eq_true, reduceCtorEq, Bool.not_true, Bool.not_false, decide_true, decide_false, id, decide_eq_false h]
inductive TmOk (P : Str → Prop) : Nat → Wd → Prop
  | var {d : Nat} {n : Int} : 0 ≤ n → n < 1000 → TmOk P d (.var n)
  | fn {d : Nat} {x : Str} {ps : List Wd} : P x → ps.length ≤ 3 → (∀ p ∈ ps, TmOk P d p) → TmOk P (d + 1) (.fn x ps)
inductive FmOk (P : Str → Prop) : Nat → Wd → Prop
  | no {d : Nat} : FmOk P d .no
  | same {d : Nat} {a b : Wd} : TmOk P 2 a → TmOk P 1 b → FmOk P d (.same a b)
  | rel {d : Nat} {x : Str} {ps : List Wd} : P x → ps.length ≤ 3 → (∀ p ∈ ps, TmOk P 2 p) → FmOk P d (.rel x ps)
  | iff {d : Nat} {a b : Wd} : FmOk P d a → FmOk P d b → FmOk P (d + 1) (.iff a b)
  | all {d : Nat} {a : Wd} : FmOk P d a → FmOk P (d + 1) (.all a)
section
variable {P : Str → Prop}
theorem TmOk.mono {d e : Nat} {w : Wd} (h : TmOk P d w) (hd : d ≤ e) : TmOk P e w := by
  induction h generalizing e with
  | var h1 h2 => exact .var h1 h2
  | fn h1 h2 _ ih => match e, hd with | e + 1, hd => exact .fn h1 h2 fun p hp => ih p hp (by omega)
theorem TmOk.lay {d : Nat} {w : Wd} (h : TmOk P d w) : w.lay ≤ d + 1 := by
  induction h with
  | var _ _ => simp [Wd.lay]
  | fn _ _ _ ih => rw [Wd.lay]; have := lays_le ih; omega
theorem FmOk.lay {d : Nat} {w : Wd} (h : FmOk P d w) : w.lay ≤ d + 4 := by
  induction h with
  | no => simp [Wd.lay]
  | same h1 h2 => rw [Wd.lay]; have := h1.lay; have := h2.lay; omega
  | rel _ _ h => rw [Wd.lay]; have := lays_le (n := 3) fun w hw => (h w hw).lay; omega
  | iff _ _ h1 h2 => rw [Wd.lay]; omega
  | all _ h => rw [Wd.lay]; omega
variable {x0 x1 x2 : Str} (h0 : P x0) (h1 : P x1) (h2 : P x2)
include h0 h1 h2
end
end PL

namespace PL
open PySem PySem.Spec PyProof.Rows L2
open Wd
theorem FmOk.mono {P : Str → Prop} {d e : Nat} {w : Wd} (h : FmOk P d w) (hd : d ≤ e) : FmOk P e w := by
  induction h generalizing e with
  | no => exact .no
  | same h1 h2 => exact .same h1 h2
  | rel h1 h2 h3 => exact .rel h1 h2 h3
  | iff _ _ ih1 ih2 => match e, hd with | e + 1, hd => exact .iff (ih1 (by omega)) (ih2 (by omega))
  | all _ ih => match e, hd with | e + 1, hd => exact .all (ih (by omega))
end PL

namespace PL
open PySem PySem.Spec PyProof.Rows L2
open Wd
/-! ### _law_like of a thing and itself -/
inductive Lk : Nat → PyData → Prop
  | int {n : Nat} {i : Int} : Lk (n + 1) (.int i)
  | str {n : Nat} {x : Str} : PyData.strOk x = true → Lk (n + 1) (.str x)
  | tup {n : Nat} {ds : List PyData} : (∀ d ∈ ds, Lk n d) → Lk (n + 1) (.tuple ds)
theorem Lk.mono {n m : Nat} {d : PyData} (h : Lk n d) (hm : n ≤ m) : Lk m d := by
  induction h generalizing m with
  | int => match m, hm with | m + 1, _ => exact .int
  | str h => match m, hm with | m + 1, _ => exact .str h
  | tup _ ih => match m, hm with | m + 1, hm => exact .tup fun d hd => ih d hd (by omega)
theorem forZ_same {i j : Nat} {body : MS} (I : Rho → Prop) : ∀ (ds : List PyData) (ρ : Rho), I ρ → (∀ d ∈ ds, ∀ ρ, I ρ → (isO ρ[i]? || isO ρ[j]?) = false ∧ ∃ ρ', body ((ρ.set i (.d d)).set j (.d d)) = .nx ρ' ∧ I ρ') → ∃ ρ', forZ i j body ds ds ρ = .nx ρ' ∧ I ρ'
  | [], ρ, hI, _ => ⟨ρ, rfl, hI⟩
  | d :: ds, ρ, hI, h => by
    obtain ⟨ho, ρ', hb, hI'⟩ := h d (.head _) ρ hI
    obtain ⟨ρ2, h2, hI2⟩ := forZ_same I ds ρ' hI' fun d hd => h d (.tail _ hd)
    refine ⟨ρ2, ?_, hI2⟩
    rw [forZ, ho, hb]
    exact h2
theorem like_fn : ∀ (n : Nat) (d : PyData), Lk n d → like_l_m n [.d d, .d d] = .ret (.bool true) []
  | 0, d, h => by cases h
  | n + 1, d, h => by
    cases h with
    | int => simp only [like_l_m, like_l_b, runF, sSeq, sIf, sRet, sAsg, sNew, sApp, sSkip_ap, sFor, sForZ, mCall, mCons, mNil, mV, mVA, mC, mBin, mUn, mTest, mAndT, mOrT, mNotT, mAnd, mOr, mNot, mBl, bl?, mIf, mTup, mLst, mSl, mSome, mNo, mComp, mIt, mItB, mR1, mR2, mR1c, mZ, mZB, mYes, mkArgs, outs, itemsOf, isO, listM, tupleM, lenM, intM, subM_i, ltM_i, leM_i, gtM_i, geM_i, addM, Option.bind_some, Option.bind_none, Option.map_some, Option.map_none, List.length_cons, List.length_nil, List.getElem?_cons_zero, List.getElem?_cons_succ, List.set_cons_zero, List.set_cons_succ, List.cons_append, List.nil_append, List.append_nil, List.replicate, if_true, if_false, Nat.reduceAdd, Nat.reduceSub, Nat.reduceLeDiff, Nat.reduceEqDiff, reduceIte, Bool.false_eq_true, reduceCtorEq, Bool.not_true, Bool.not_false, decide_true, decide_false, id, isiM, tyName, eqM_int, decide_true, show kitB "int" "tuple" = some false from by decide +kernel, show kitB "int" "str" = some false from by decide +kernel, show kitB "int" "int" = some true from by decide +kernel, show kitB "int" "bool" = some false from by decide +kernel]
    | str hx => simp only [like_l_m, like_l_b, runF, sSeq, sIf, sRet, sAsg, sNew, sApp, sSkip_ap, sFor, sForZ, mCall, mCons, mNil, mV, mVA, mC, mBin, mUn, mTest, mAndT, mOrT, mNotT, mAnd, mOr, mNot, mBl, bl?, mIf, mTup, mLst, mSl, mSome, mNo, mComp, mIt, mItB, mR1, mR2, mR1c, mZ, mZB, mYes, mkArgs, outs, itemsOf, isO, listM, tupleM, lenM, intM, subM_i, ltM_i, leM_i, gtM_i, geM_i, addM, Option.bind_some, Option.bind_none, Option.map_some, Option.map_none, List.length_cons, List.length_nil, List.getElem?_cons_zero, List.getElem?_cons_succ, List.set_cons_zero, List.set_cons_succ, List.cons_append, List.nil_append, List.append_nil, List.replicate, if_true, if_false, Nat.reduceAdd, Nat.reduceSub, Nat.reduceLeDiff, Nat.reduceEqDiff, reduceIte, Bool.false_eq_true, reduceCtorEq, Bool.not_true, Bool.not_false, decide_true, decide_false, id, isiM, tyName, eqM_str hx hx, decide_true, show kitB "str" "tuple" = some false from by decide +kernel, show kitB "str" "str" = some true from by decide +kernel]
    | @tup _ ds hd =>
      have key := forZ_same (i := 2) (j := 3) (body := sIf (mNotT (mTest (mCall [true, true] (like_l_m n) (mCons (mV 2) (mCons (mV 3) mNil))))) (sRet (mC (.bool false))) sSkip)
        (fun ρ => ∃ a b, ρ = [.d (.tuple ds), .d (.tuple ds), a, b] ∧ isO (some a) = false ∧ isO (some b) = false) ds [.d (.tuple ds), .d (.tuple ds), .nil, .nil] ⟨_, _, rfl, rfl, rfl⟩ (by
          rintro d hd' ρ ⟨a, b, rfl, ha, hb⟩
          refine ⟨by simp [ha, hb], [.d (.tuple ds), .d (.tuple ds), .d d, .d d], ?_, _, _, rfl, rfl, rfl⟩
          simp only [runF, sSeq, sIf, sRet, sAsg, sNew, sApp, sSkip_ap, sFor, sForZ, mCall, mCons, mNil, mV, mVA, mC, mBin, mUn, mTest, mAndT, mOrT, mNotT, mAnd, mOr, mNot, mBl, bl?, mIf, mTup, mLst, mSl, mSome, mNo, mComp, mIt, mItB, mR1, mR2, mR1c, mZ, mZB, mYes, mkArgs, outs, itemsOf, isO, listM, tupleM, lenM, intM, subM_i, ltM_i, leM_i, gtM_i, geM_i, addM, Option.bind_some, Option.bind_none, Option.map_some, Option.map_none, List.length_cons, List.length_nil, List.getElem?_cons_zero, List.getElem?_cons_succ, List.set_cons_zero, List.set_cons_succ, List.cons_append, List.nil_append, List.append_nil, List.replicate, if_true, if_false, Nat.reduceAdd, Nat.reduceSub, Nat.reduceLeDiff, Nat.reduceEqDiff, reduceIte, Bool.false_eq_true, reduceCtorEq, Bool.not_true, Bool.not_false, decide_true, decide_false, id, like_fn n d (hd d hd')])
      obtain ⟨ρ', e, a, b, rfl, ha, hb⟩ := key
      simp only [like_l_m, like_l_b, runF, sSeq, sIf, sRet, sAsg, sNew, sApp, sSkip_ap, sFor, sForZ, mCall, mCons, mNil, mV, mVA, mC, mBin, mUn, mTest, mAndT, mOrT, mNotT, mAnd, mOr, mNot, mBl, bl?, mIf, mTup, mLst, mSl, mSome, mNo, mComp, mIt, mItB, mR1, mR2, mR1c, mZ, mZB, mYes, mkArgs, outs, itemsOf, isO, listM, tupleM, lenM, intM, subM_i, ltM_i, leM_i, gtM_i, geM_i, addM, Option.bind_some, Option.bind_none, Option.map_some, Option.map_none, List.length_cons, List.length_nil, List.getElem?_cons_zero, List.getElem?_cons_succ, List.set_cons_zero, List.set_cons_succ, List.cons_append, List.nil_append, List.append_nil, List.replicate, if_true, if_false, Nat.reduceAdd, Nat.reduceSub, Nat.reduceLeDiff, Nat.reduceEqDiff, reduceIte, Bool.false_eq_true, reduceCtorEq, Bool.not_true, Bool.not_false, decide_true, decide_false, id, isiM, tyName, show kitB "tuple" "tuple" = some true from by decide +kernel, neM_int, decide_true, and_self, e]
/-! a word is like itself -/
theorem lk_datas {n : Nat} {ws : List Wd} (h : ∀ w ∈ ws, Lk n w.data) : ∀ d ∈ datas ws, Lk n d := by
  rw [datas_map]
  intro d hd
  obtain ⟨w, hw, rfl⟩ := List.mem_map.mp hd
  exact h w hw
mutual
def names : Wd → List Str
  | .var _ => []
  | .no => []
  | .fn x ps => x :: namess ps
  | .rel x ps => x :: namess ps
  | .same a b => names a ++ names b
  | .iff a b => names a ++ names b
  | .all a => names a
def namess : List Wd → List Str
  | [] => []
  | w :: ws => names w ++ namess ws
end
theorem names_sub {ws : List Wd} {w : Wd} (h : w ∈ ws) : ∀ x ∈ names w, x ∈ namess ws := by
  induction h with
  | head _ => intro x hx; rw [namess]; exact List.mem_append.mpr (.inl hx)
  | tail _ _ ih => intro x hx; rw [namess]; exact List.mem_append.mpr (.inr (ih x hx))
theorem word_lk : ∀ (n : Nat) (w : Wd), w.lay ≤ n → (∀ x ∈ names w, PyData.strOk x = true) → Lk (2 * n) w.data
  | 0, w, h, _ => by have := w.lay_pos; omega
  | n + 1, w, h, hn => by
    have ez : 2 * (n + 1) = 2 * n + 1 + 1 := by omega
    rw [ez]
    have kid : ∀ k ∈ w.kids, (∀ x ∈ names k, PyData.strOk x = true) → Lk (2 * n) k.data := fun k hk hx => word_lk n k (kids_le h hk) hx
    cases w with
    | var i => rw [data]; exact .tup (by simp; exact ⟨.str (by decide +kernel), .int⟩)
    | no => rw [data]; exact .tup (by simp; exact .str (by decide +kernel))
    | fn x ps =>
      rw [names] at hn
      rw [data]
      refine .tup ?_
      simp
      exact ⟨.str (by decide +kernel), .str (hn x (.head _)), .tup (lk_datas fun k hk => kid k hk fun y hy => hn y (.tail _ (names_sub hk y hy)))⟩
    | rel x ps =>
      rw [names] at hn
      rw [data]
      refine .tup ?_
      simp
      exact ⟨.str (by decide +kernel), .str (hn x (.head _)), .tup (lk_datas fun k hk => kid k hk fun y hy => hn y (.tail _ (names_sub hk y hy)))⟩
    | same a b =>
      rw [names] at hn
      rw [data]
      refine .tup ?_
      simp
      exact ⟨.str (by decide +kernel), (kid a (by simp [kids]) fun y hy => hn y (List.mem_append.mpr (.inl hy))).mono (by omega), (kid b (by simp [kids]) fun y hy => hn y (List.mem_append.mpr (.inr hy))).mono (by omega)⟩
    | iff a b =>
      rw [names] at hn
      rw [data]
      refine .tup ?_
      simp
      exact ⟨.str (by decide +kernel), (kid a (by simp [kids]) fun y hy => hn y (List.mem_append.mpr (.inl hy))).mono (by omega), (kid b (by simp [kids]) fun y hy => hn y (List.mem_append.mpr (.inr hy))).mono (by omega)⟩
    | all a =>
      rw [names] at hn
      rw [data]
      refine .tup ?_
      simp
      exact ⟨.str (by decide +kernel), (kid a (by simp [kids]) hn).mono (by omega)⟩
theorem namess_all {ws : List Wd} {P : Str → Prop} (h : ∀ w ∈ ws, ∀ x ∈ names w, P x) : ∀ x ∈ namess ws, P x := by
  induction ws with
  | nil => intro x hx; simp [namess] at hx
  | cons w ws ih =>
    intro x hx
    rw [namess] at hx
    rcases List.mem_append.mp hx with hx | hx
    · exact h w (.head _) x hx
    · exact ih (fun u hu => h u (.tail _ hu)) x hx
theorem TmOk.names {P : Str → Prop} {d : Nat} {w : Wd} (h : TmOk P d w) : ∀ x ∈ PL.names w, P x := by
  induction h with
  | var _ _ => intro x hx; simp [PL.names] at hx
  | fn hx _ _ ih =>
    intro y hy
    rw [PL.names] at hy
    cases hy with
    | head => exact hx
    | tail _ hy => exact namess_all ih y hy
theorem FmOk.names {P : Str → Prop} {d : Nat} {w : Wd} (h : FmOk P d w) : ∀ x ∈ PL.names w, P x := by
  induction h with
  | no => intro x hx; simp [PL.names] at hx
  | same h1 h2 =>
    intro y hy
    rw [PL.names] at hy
    rcases List.mem_append.mp hy with hy | hy
    · exact h1.names y hy
    · exact h2.names y hy
  | rel hx _ hp =>
    intro y hy
    rw [PL.names] at hy
    cases hy with
    | head => exact hx
    | tail _ hy => exact namess_all (fun w hw => (hp w hw).names) y hy
  | iff _ _ h1 h2 =>
    intro y hy
    rw [PL.names] at hy
    rcases List.mem_append.mp hy with hy | hy
    · exact h1 y hy
    · exact h2 y hy
  | all _ h => intro y hy; rw [PL.names] at hy; exact h y hy
/-! names stand under a map of vars -/
mutual
theorem vmap_names {f : Int → Int → Wd} {P : Str → Prop} (hf : ∀ d n, ∀ x ∈ names (f d n), P x) : ∀ (w : Wd) (d : Int), (∀ x ∈ names w, P x) → ∀ x ∈ names (w.vmap f d), P x
  | .var n, d, h => by rw [vmap]; exact hf d n
  | .no, d, h => by rw [vmap]; exact h
  | .fn x ps, d, h => by
    rw [vmap, names]; rw [names] at h
    intro y hy
    cases hy with
    | head => exact h x (.head _)
    | tail _ hy => exact vmaps_names hf ps d (fun z hz => h z (.tail _ hz)) y hy
  | .rel x ps, d, h => by
    rw [vmap, names]; rw [names] at h
    intro y hy
    cases hy with
    | head => exact h x (.head _)
    | tail _ hy => exact vmaps_names hf ps d (fun z hz => h z (.tail _ hz)) y hy
  | .same a b, d, h => by
    rw [vmap, names]; rw [names] at h
    intro y hy
    rcases List.mem_append.mp hy with hy | hy
    · exact vmap_names hf a d (fun z hz => h z (List.mem_append.mpr (.inl hz))) y hy
    · exact vmap_names hf b d (fun z hz => h z (List.mem_append.mpr (.inr hz))) y hy
  | .iff a b, d, h => by
    rw [vmap, names]; rw [names] at h
    intro y hy
    rcases List.mem_append.mp hy with hy | hy
    · exact vmap_names hf a d (fun z hz => h z (List.mem_append.mpr (.inl hz))) y hy
    · exact vmap_names hf b d (fun z hz => h z (List.mem_append.mpr (.inr hz))) y hy
  | .all a, d, h => by rw [vmap, names]; rw [names] at h; exact vmap_names hf a (d + 1) h
theorem vmaps_names {f : Int → Int → Wd} {P : Str → Prop} (hf : ∀ d n, ∀ x ∈ names (f d n), P x) : ∀ (ws : List Wd) (d : Int), (∀ x ∈ namess ws, P x) → ∀ x ∈ namess (vmaps f ws d), P x
  | [], d, h => by rw [vmaps]; exact h
  | w :: ws, d, h => by
    rw [vmaps, namess]; rw [namess] at h
    intro y hy
    rcases List.mem_append.mp hy with hy | hy
    · exact vmap_names hf w d (fun z hz => h z (List.mem_append.mpr (.inl hz))) y hy
    · exact vmaps_names hf ws d (fun z hz => h z (List.mem_append.mpr (.inr hz))) y hy
end
/-! layers under a map of vars -/
mutual
theorem vmap_lay {f : Int → Int → Wd} {m : Nat} (hf : ∀ d n, (f d n).lay ≤ m + 1) : ∀ (w : Wd) (d : Int), (w.vmap f d).lay ≤ w.lay + m
  | .var n, d => by rw [vmap]; have := hf d n; simp only [lay]; omega
  | .no, d => by rw [vmap]; omega
  | .fn x ps, d => by rw [vmap]; simp only [lay]; have := vmaps_lay hf ps d; omega
  | .rel x ps, d => by rw [vmap]; simp only [lay]; have := vmaps_lay hf ps d; omega
  | .same a b, d => by rw [vmap]; simp only [lay]; have := vmap_lay hf a d; have := vmap_lay hf b d; omega
  | .iff a b, d => by rw [vmap]; simp only [lay]; have := vmap_lay hf a d; have := vmap_lay hf b d; omega
  | .all a, d => by rw [vmap]; simp only [lay]; have := vmap_lay hf a (d + 1); omega
theorem vmaps_lay {f : Int → Int → Wd} {m : Nat} (hf : ∀ d n, (f d n).lay ≤ m + 1) : ∀ (ws : List Wd) (d : Int), lays (vmaps f ws d) ≤ lays ws + m
  | [], d => by rw [vmaps]; simp [lays]
  | w :: ws, d => by rw [vmaps]; simp only [lays]; have := vmap_lay hf w d; have := vmaps_lay hf ws d; omega
end
end PL

namespace PL
open PySem PySem.Spec PyProof.Rows L2
open Wd
/-! ### what the words' functions do -/
theorem ixv1 (n : Int) : ixM (Wd.var n).data (.int 1) = some (.int n) := rfl
def upF (k : Int) : Int → Int → Wd := fun _ n => .var (n + k)
/-! a change of free vars -/
def shF (k : Int) : Int → Int → Wd := fun d n => if n < d then .var n else .var (n + k)
/-! put -/
def puF (t : Wd) : Int → Int → Wd := fun d n => if n < d then .var n else if n = d then t.vmap (upF d) 0 else .var (n - 1)
end PL

namespace PL
open PySem PySem.Spec PyProof.Rows L2
open Wd
/-! ### searches and sums over lists -/
/-! ### the numbers of the vars, less the depth -/
mutual
def occ : Wd → Int → List Int
  | .var n, d => [n - d]
  | .no, _ => []
  | .fn _ ps, d => occs ps d
  | .rel _ ps, d => occs ps d
  | .same a b, d => occ a d ++ occ b d
  | .iff a b, d => occ a d ++ occ b d
  | .all a, d => occ a (d + 1)
def occs : List Wd → Int → List Int
  | [], _ => []
  | w :: ws, d => occ w d ++ occs ws d
end
theorem occ_kids {w : Wd} (h : w.isVar = false) (d : Int) : occ w d = occs w.kids (w.dep d) := by
  cases w with
  | var n => cases h
  | _ => simp [occ, occs, kids, dep, isAll]
theorem any_occs (p : Int → Bool) (d : Int) : ∀ ws, (occs ws d).any p = ws.any fun w => (occ w d).any p
  | [] => rfl
  | w :: ws => by rw [occs, List.any_append, any_occs p d ws]; rfl
theorem TmOk.any {P : Str → Prop} {m : Nat} {w : Wd} (h : TmOk P m w) : TmOk (fun _ => True) m w := by
  induction h with
  | var h1 h2 => exact .var h1 h2
  | fn _ h2 _ ih => exact .fn trivial h2 ih
def intsD (xs : List Int) : PyData := .list (xs.map .int)
theorem addM_ints {xs ys : List Int} (h : xs.length + ys.length ≤ 2 ^ 24) : addM (intsD xs) (intsD ys) = some (intsD (xs ++ ys)) := by
  unfold intsD
  simp only [addM, List.length_map]
  rw [if_pos (by rw [sizeLine_eq]; omega), List.map_append]
end PL

namespace PL
open PySem PySem.Spec PyProof.Rows L2
open Wd
theorem all_bound_fn : ∀ (n : Nat) (w : Wd) (d : Int), w.lay ≤ n → all_bound_m n [.d w.data, .d (.int d)] = .ret (.bool (!(occ w d).any fun x => decide (0 ≤ x))) []
  | 0, w, d, h => by have := w.lay_pos; omega
  | n + 1, w, d, h => by
    cases hv : w.isVar with
    | true =>
      obtain ⟨v, rfl⟩ := isVar_eq hv
      have e : decide (v < d) = !decide (0 ≤ v - d) := by
        by_cases hd : v < d
        · rw [decide_eq_true hd, decide_eq_false (by omega)]; rfl
        · rw [decide_eq_false hd, decide_eq_true (by omega)]; rfl
      simp only [all_bound_m, all_bound_b, runF, sSeq, sIf, sRet, sAsg, sNew, sApp, sSkip_ap, sFor, sForZ, mCall, mCons, mNil, mV, mVA, mC, mBin, mUn, mTest, mAndT, mOrT, mNotT, mAnd, mOr, mNot, mBl, bl?, mIf, mTup, mLst, mSl, mSome, mNo, mComp, mIt, mItB, mR1, mR2, mR1c, mZ, mZB, mYes, mkArgs, outs, itemsOf, isO, listM, tupleM, lenM, intM, subM_i, ltM_i, leM_i, gtM_i, geM_i, addM, Option.bind_some, Option.bind_none, Option.map_some, Option.map_none, List.length_cons, List.length_nil, List.getElem?_cons_zero, List.getElem?_cons_succ, List.set_cons_zero, List.set_cons_succ, List.cons_append, List.nil_append, List.append_nil, List.replicate, if_true, if_false, Nat.reduceAdd, Nat.reduceSub, Nat.reduceLeDiff, Nat.reduceEqDiff, reduceIte, Bool.false_eq_true, reduceCtorEq, Bool.not_true, Bool.not_false, decide_true, decide_false, id, ix0, tg_var, hv, ixv1, eqM_int, occ, List.any_cons, List.any_nil, Bool.or_false, e]
    | false =>
      obtain ⟨ρ', ⟨s, rfl, hs⟩, e⟩ := forL_any (i := 3) (g := Wd.data) (r := .bool false) (p := fun u => (occ u (w.dep d)).any fun x => decide (0 ≤ x))
        (body := sIf (mNotT (mTest (mCall [true, true] (all_bound_m n) (mCons (mV 3) (mCons (mV 2) mNil))))) (sRet (mC (.bool false))) sSkip)
        (fun ρ => ∃ s, ρ = [.d w.data, .d (.int d), .d (.int (w.dep d)), s] ∧ isO (some s) = false) w.kids [.d w.data, .d (.int d), .d (.int (w.dep d)), .nil] ⟨_, rfl, rfl⟩ (by
          rintro u hu ρ ⟨s, rfl, hs⟩
          refine ⟨hs, _, ⟨.d u.data, rfl, rfl⟩, ?_⟩
          simp only [runF, sSeq, sIf, sRet, sAsg, sNew, sApp, sSkip_ap, sFor, sForZ, mCall, mCons, mNil, mV, mVA, mC, mBin, mUn, mTest, mAndT, mOrT, mNotT, mAnd, mOr, mNot, mBl, bl?, mIf, mTup, mLst, mSl, mSome, mNo, mComp, mIt, mItB, mR1, mR2, mR1c, mZ, mZB, mYes, mkArgs, outs, itemsOf, isO, listM, tupleM, lenM, intM, subM_i, ltM_i, leM_i, gtM_i, geM_i, addM, Option.bind_some, Option.bind_none, Option.map_some, Option.map_none, List.length_cons, List.length_nil, List.getElem?_cons_zero, List.getElem?_cons_succ, List.set_cons_zero, List.set_cons_succ, List.cons_append, List.nil_append, List.append_nil, List.replicate, if_true, if_false, Nat.reduceAdd, Nat.reduceSub, Nat.reduceLeDiff, Nat.reduceEqDiff, reduceIte, Bool.false_eq_true, reduceCtorEq, Bool.not_true, Bool.not_false, decide_true, decide_false, id, all_bound_fn n u (w.dep d) (kids_le h hu)]
          cases (occ u (w.dep d)).any fun x => decide (0 ≤ x) <;> rfl)
      rw [← datas_map] at e
      simp only [all_bound_m, all_bound_b, runF, sSeq, sIf, sRet, sAsg, sNew, sApp, sSkip_ap, sFor, sForZ, mCall, mCons, mNil, mV, mVA, mC, mBin, mUn, mTest, mAndT, mOrT, mNotT, mAnd, mOr, mNot, mBl, bl?, mIf, mTup, mLst, mSl, mSome, mNo, mComp, mIt, mItB, mR1, mR2, mR1c, mZ, mZB, mYes, mkArgs, outs, itemsOf, isO, listM, tupleM, lenM, intM, subM_i, ltM_i, leM_i, gtM_i, geM_i, addM, Option.bind_some, Option.bind_none, Option.map_some, Option.map_none, List.length_cons, List.length_nil, List.getElem?_cons_zero, List.getElem?_cons_succ, List.set_cons_zero, List.set_cons_succ, List.cons_append, List.nil_append, List.append_nil, List.replicate, if_true, if_false, Nat.reduceAdd, Nat.reduceSub, Nat.reduceLeDiff, Nat.reduceEqDiff, reduceIte, Bool.false_eq_true, reduceCtorEq, Bool.not_true, Bool.not_false, decide_true, decide_false, id, ix0, tg_var, hv, parts_fn, inward_fn, e]
      rw [occ_kids hv, any_occs]
      cases w.kids.any fun u => (occ u (w.dep d)).any fun x => decide (0 ≤ x) <;> rfl
end PL

namespace PL
open PySem PySem.Spec PyProof.Rows L2
open Wd
theorem upF_names {P : Str → Prop} {t : Wd} (h : ∀ x ∈ names t, P x) (k d : Int) : ∀ x ∈ names (t.vmap (upF k) d), P x :=
  vmap_names (fun d n x hx => by simp [upF, names] at hx) t d h
theorem puF_names {P : Str → Prop} {t w : Wd} (ht : ∀ x ∈ names t, P x) (hw : ∀ x ∈ names w, P x) (d : Int) : ∀ x ∈ names (w.vmap (puF t) d), P x :=
  vmap_names (fun d n x hx => by
    unfold puF at hx
    split at hx
    · simp [names] at hx
    · split at hx
      · exact upF_names ht d 0 x hx
      · simp [names] at hx) w d hw
theorem shF_names {P : Str → Prop} {w : Wd} (hw : ∀ x ∈ names w, P x) (k d : Int) : ∀ x ∈ names (w.vmap (shF k) d), P x :=
  vmap_names (fun d n x hx => by
    unfold shF at hx
    split at hx <;> simp [names] at hx) w d hw
theorem shF_lay (k : Int) (w : Wd) (d : Int) : (w.vmap (shF k) d).lay ≤ w.lay := by
  have := vmap_lay (f := shF k) (m := 0) (fun d n => by unfold shF; split <;> simp [Wd.lay]) w d
  omega
theorem inM_ints (x : Int) (xs : List Int) : inM false (.int x) (intsD xs) = some (.bool (decide (x ∈ xs))) := by
  have h1 : ∀ ys : List Int, PyData.canLayAll0 (ys.map .int) = true := fun ys => by
    induction ys with
    | nil => rfl
    | cons y ys ih => rw [List.map_cons, PyData.canLayAll0, ih]; rfl
  have h2 : ∀ ys : List Int, ((ys.map PyData.int).any fun z => PyData.eqv z (.int x)) = decide (x ∈ ys) := fun ys => by
    induction ys with
    | nil => rfl
    | cons y ys ih =>
      rw [List.map_cons, List.any_cons, ih]
      simp only [PyData.eqv]
      by_cases e : y = x
      · subst e; simp
      · have e' : ¬ x = y := fun h => e h.symm
        simp [e, e']
  simp only [inM, intsD, itemsOf, Option.bind_some]
  rw [if_pos ⟨by rfl, by rw [PyData.canLay0]; exact h1 xs, by simp only [PyData.depth]; decide⟩, h2, Bool.false_xor]
end PL

namespace PL
open PySem PySem.Spec PyProof.Rows L2
open Wd
/-! ### knots -/
mutual
def kn : Wd → Nat
  | .var _ => 1
  | .no => 1
  | .fn _ ps => kns ps + 1
  | .rel _ ps => kns ps + 1
  | .same a b => kn a + kn b + 1
  | .iff a b => kn a + kn b + 1
  | .all a => kn a + 1
def kns : List Wd → Nat
  | [] => 0
  | w :: ws => kn w + kns ws
end
theorem kn_kids (w : Wd) : kn w = kns w.kids + 1 := by cases w <;> simp [kn, kns, kids]
theorem kns_app (us ws : List Wd) : kns (us ++ ws) = kns us + kns ws := by
  induction us with
  | nil => simp [kns]
  | cons u us ih => rw [List.cons_append, kns, kns, ih]; omega
theorem knots_fn : ∀ (n : Nat) (w : Wd), w.lay ≤ n → knots_m n [.d w.data] = .ret (.int (kn w : Nat)) []
  | 0, w, h => by have := w.lay_pos; omega
  | n + 1, w, h => by
    rw [knots_m]
    refine fn_ret rfl (by simp [isO]) ?_
    refine Ends.nx (by simp only [runF, sSeq, sIf, sRet, sAsg, sNew, sApp, sSkip_ap, sFor, sForZ, mCall, mCons, mNil, mV, mVA, mC, mBin, mUn, mTest, mAndT, mOrT, mNotT, mAnd, mOr, mNot, mBl, bl?, mIf, mTup, mLst, mSl, mSome, mNo, mComp, mIt, mItB, mR1, mR2, mR1c, mZ, mZB, mYes, mkArgs, outs, itemsOf, isO, listM, tupleM, lenM, intM, subM_i, ltM_i, leM_i, gtM_i, geM_i, addM, Option.bind_some, Option.bind_none, Option.map_some, Option.map_none, List.length_cons, List.length_nil, List.getElem?_cons_zero, List.getElem?_cons_succ, List.set_cons_zero, List.set_cons_succ, List.cons_append, List.nil_append, List.append_nil, List.replicate, if_true, if_false, Nat.reduceAdd, Nat.reduceSub, Nat.reduceLeDiff, Nat.reduceEqDiff, reduceIte, Bool.false_eq_true, reduceCtorEq, Bool.not_true, Bool.not_false, decide_true, decide_false, id]; rfl) ?_
    refine Ends.go _ (Ends.forG (g := Wd.data) (all := w.kids) (fun vs ρ => ∃ s, ρ = [.d w.data, .d (.int ((1 + kns vs : Nat) : Int)), s] ∧ isO (some s) = false) (by simp only [runF, sSeq, sIf, sRet, sAsg, sNew, sApp, sSkip_ap, sFor, sForZ, mCall, mCons, mNil, mV, mVA, mC, mBin, mUn, mTest, mAndT, mOrT, mNotT, mAnd, mOr, mNot, mBl, bl?, mIf, mTup, mLst, mSl, mSome, mNo, mComp, mIt, mItB, mR1, mR2, mR1c, mZ, mZB, mYes, mkArgs, outs, itemsOf, isO, listM, tupleM, lenM, intM, subM_i, ltM_i, leM_i, gtM_i, geM_i, addM, Option.bind_some, Option.bind_none, Option.map_some, Option.map_none, List.length_cons, List.length_nil, List.getElem?_cons_zero, List.getElem?_cons_succ, List.set_cons_zero, List.set_cons_succ, List.cons_append, List.nil_append, List.append_nil, List.replicate, if_true, if_false, Nat.reduceAdd, Nat.reduceSub, Nat.reduceLeDiff, Nat.reduceEqDiff, reduceIte, Bool.false_eq_true, reduceCtorEq, Bool.not_true, Bool.not_false, decide_true, decide_false, id, parts_fn, datas_map]) ⟨_, rfl, rfl⟩ ?_ fun ρ h => ⟨ρ, rfl, h⟩) ?_
    · rintro vs u us ρ e ⟨s, rfl, hs⟩
      refine ⟨hs, _, ?_, .d u.data, rfl, rfl⟩
      have hk := knots_fn n u (kids_le h (by rw [← e]; simp))
      have hc : ((1 + kns vs : Nat) : Int) + ((kn u : Nat) : Int) = ((1 + kns (vs ++ [u]) : Nat) : Int) := by rw [kns_app, kns, kns]; omega
      simp only [runF, sSeq, sIf, sRet, sAsg, sNew, sApp, sSkip_ap, sFor, sForZ, mCall, mCons, mNil, mV, mVA, mC, mBin, mUn, mTest, mAndT, mOrT, mNotT, mAnd, mOr, mNot, mBl, bl?, mIf, mTup, mLst, mSl, mSome, mNo, mComp, mIt, mItB, mR1, mR2, mR1c, mZ, mZB, mYes, mkArgs, outs, itemsOf, isO, listM, tupleM, lenM, intM, subM_i, ltM_i, leM_i, gtM_i, geM_i, addM, Option.bind_some, Option.bind_none, Option.map_some, Option.map_none, List.length_cons, List.length_nil, List.getElem?_cons_zero, List.getElem?_cons_succ, List.set_cons_zero, List.set_cons_succ, List.cons_append, List.nil_append, List.append_nil, List.replicate, if_true, if_false, Nat.reduceAdd, Nat.reduceSub, Nat.reduceLeDiff, Nat.reduceEqDiff, reduceIte, Bool.false_eq_true, reduceCtorEq, Bool.not_true, Bool.not_false, decide_true, decide_false, id, hk, hc]
    · rintro ρ ⟨s, rfl, hs⟩
      refine Ends.ret (d := .int (kn w : Nat)) ?_ ⟨_, rfl⟩
      rw [kn_kids, Nat.add_comm]
      simp only [runF, sSeq, sIf, sRet, sAsg, sNew, sApp, sSkip_ap, sFor, sForZ, mCall, mCons, mNil, mV, mVA, mC, mBin, mUn, mTest, mAndT, mOrT, mNotT, mAnd, mOr, mNot, mBl, bl?, mIf, mTup, mLst, mSl, mSome, mNo, mComp, mIt, mItB, mR1, mR2, mR1c, mZ, mZB, mYes, mkArgs, outs, itemsOf, isO, listM, tupleM, lenM, intM, subM_i, ltM_i, leM_i, gtM_i, geM_i, addM, Option.bind_some, Option.bind_none, Option.map_some, Option.map_none, List.length_cons, List.length_nil, List.getElem?_cons_zero, List.getElem?_cons_succ, List.set_cons_zero, List.set_cons_succ, List.cons_append, List.nil_append, List.append_nil, List.replicate, if_true, if_false, Nat.reduceAdd, Nat.reduceSub, Nat.reduceLeDiff, Nat.reduceEqDiff, reduceIte, Bool.false_eq_true, reduceCtorEq, Bool.not_true, Bool.not_false, decide_true, decide_false, id]
theorem whole_fn (i : Int) : whole_l_m [.d (.int i), .d (.int i)] = .ret (.bool true) [] := by
  simp only [whole_l_m, whole_l_b, runF, sSeq, sIf, sRet, sAsg, sNew, sApp, sSkip_ap, sFor, sForZ, mCall, mCons, mNil, mV, mVA, mC, mBin, mUn, mTest, mAndT, mOrT, mNotT, mAnd, mOr, mNot, mBl, bl?, mIf, mTup, mLst, mSl, mSome, mNo, mComp, mIt, mItB, mR1, mR2, mR1c, mZ, mZB, mYes, mkArgs, outs, itemsOf, isO, listM, tupleM, lenM, intM, subM_i, ltM_i, leM_i, gtM_i, geM_i, addM, Option.bind_some, Option.bind_none, Option.map_some, Option.map_none, List.length_cons, List.length_nil, List.getElem?_cons_zero, List.getElem?_cons_succ, List.set_cons_zero, List.set_cons_succ, List.cons_append, List.nil_append, List.append_nil, List.replicate, if_true, if_false, Nat.reduceAdd, Nat.reduceSub, Nat.reduceLeDiff, Nat.reduceEqDiff, reduceIte, Bool.false_eq_true, reduceCtorEq, Bool.not_true, Bool.not_false, decide_true, decide_false, id, isiM, tyName, eqM_int, show kitB "int" "int" = some true from by decide +kernel, show kitB "int" "bool" = some false from by decide +kernel]
end PL

namespace PL
open PySem PySem.Spec PyProof.Rows L2
open Wd
/-! ### what is true -/
def mixI (s : Int) (x : Str) (row : List Int) : Int := (row.foldl (fun s t => nextI (s + 31 + t)) (x.cps.toList.foldl (fun s (c : Nat) => nextI (s + (c : Int))) s)) / 8
mutual
def ev (sz s : Int) (e : Int → Int) : Wd → Int
  | .var n => e n
  | .fn x ps => mixI s x (evs sz s e ps) % sz
  | _ => 0
def evs (sz s : Int) (e : Int → Int) : List Wd → List Int
  | [] => []
  | w :: ws => ev sz s e w :: evs sz s e ws
end
/-- a term, a form: vars from nought -/
inductive Tm : Wd → Prop
  | var {n : Int} : 0 ≤ n → Tm (.var n)
  | fn {x : Str} {ps : List Wd} : (∀ p ∈ ps, Tm p) → Tm (.fn x ps)
inductive Fm : Wd → Prop
  | no : Fm .no
  | rel {x : Str} {ps : List Wd} : (∀ p ∈ ps, Tm p) → Fm (.rel x ps)
  | same {a b : Wd} : Tm a → Tm b → Fm (.same a b)
  | iff {a b : Wd} : Fm a → Fm b → Fm (.iff a b)
  | all {a : Wd} : Fm a → Fm (.all a)
theorem TmOk.tm {P : Str → Prop} {d : Nat} {w : Wd} (h : TmOk P d w) : Tm w := by
  induction h with
  | var h1 _ => exact .var h1
  | fn _ _ _ ih => exact .fn ih
theorem FmOk.fm {P : Str → Prop} {d : Nat} {w : Wd} (h : FmOk P d w) : Fm w := by
  induction h with
  | no => exact .no
  | same h1 h2 => exact .same h1.tm h2.tm
  | rel _ _ h => exact .rel fun p hp => (h p hp).tm
  | iff _ _ h1 h2 => exact .iff h1 h2
  | all _ h => exact .all h
theorem Tm.vmap {f : Int → Int → Wd} (hf : ∀ d n, 0 ≤ d → 0 ≤ n → Tm (f d n)) {w : Wd} (h : Tm w) {d : Int} (hd : 0 ≤ d) : Tm (w.vmap f d) := by
  induction h with
  | var h => rw [Wd.vmap]; exact hf d _ hd h
  | fn _ ih =>
    rw [Wd.vmap, vmaps_map]
    refine .fn fun p hp => ?_
    obtain ⟨q, hq, rfl⟩ := List.mem_map.mp hp
    exact ih q hq
theorem Fm.vmap {f : Int → Int → Wd} (hf : ∀ d n, 0 ≤ d → 0 ≤ n → Tm (f d n)) {w : Wd} (h : Fm w) : ∀ {d : Int}, 0 ≤ d → Fm (w.vmap f d) := by
  induction h with
  | no => intro d _; exact .no
  | rel h =>
    intro d hd
    rw [Wd.vmap, vmaps_map]
    refine .rel fun p hp => ?_
    obtain ⟨q, hq, rfl⟩ := List.mem_map.mp hp
    exact (h q hq).vmap hf hd
  | same h1 h2 => intro d hd; exact .same (h1.vmap hf hd) (h2.vmap hf hd)
  | iff _ _ h1 h2 => intro d hd; exact .iff (h1 hd) (h2 hd)
  | all _ h => intro d hd; exact .all (h (by omega))
theorem up_tm {w : Wd} (h : Tm w) {k : Int} (hk : 0 ≤ k) {d : Int} (hd : 0 ≤ d) : Tm (w.vmap (upF k) d) := h.vmap (fun d n _ hn => .var (by omega)) hd
theorem pu_tm {t : Wd} (h : Tm t) (d n : Int) (hd : 0 ≤ d) (hn : 0 ≤ n) : Tm (puF t d n) := by
  unfold puF
  split
  · exact .var hn
  · split
    · exact up_tm h hd (Int.le_refl 0)
    · exact .var (by omega)
section
variable {sz s : Int}
/-- v put in at d -/
def ins (d v : Int) (e : Int → Int) : Int → Int := fun n => if n < d then e n else if n = d then v else e (n - 1)
end
/-! ### what the law's functions reckon -/
theorem ix1_iff (a b : Wd) : ixM (Wd.iff a b).data (.int 1) = some a.data := rfl
theorem ix2_iff (a b : Wd) : ixM (Wd.iff a b).data (.int 2) = some b.data := rfl
end PL

namespace PL
open PySem PySem.Spec PyProof.Rows L2
open Wd
/-! ### there and back -/
mutual
theorem lifted_lowered : ∀ (w : Wd) (d : Int), ((occ w d).any fun x => decide (x = 0)) = false → (w.vmap (shF (-1)) d).vmap (shF 1) d = w
  | .var n, d, h => by
    rw [occ] at h
    simp at h
    rw [vmap]
    unfold shF
    by_cases h1 : n < d
    · rw [if_pos h1, vmap, if_pos h1]
    · rw [if_neg h1, vmap, if_neg (by omega)]; congr 1; omega
  | .no, d, h => rfl
  | .fn x ps, d, h => by rw [vmap, vmap, lifted_lowereds ps d (by rw [occ] at h; exact h)]
  | .rel x ps, d, h => by rw [vmap, vmap, lifted_lowereds ps d (by rw [occ] at h; exact h)]
  | .same a b, d, h => by
    rw [occ, List.any_append, Bool.or_eq_false_iff] at h
    rw [vmap, vmap, lifted_lowered a d h.1, lifted_lowered b d h.2]
  | .iff a b, d, h => by
    rw [occ, List.any_append, Bool.or_eq_false_iff] at h
    rw [vmap, vmap, lifted_lowered a d h.1, lifted_lowered b d h.2]
  | .all a, d, h => by rw [vmap, vmap, lifted_lowered a (d + 1) (by rw [occ] at h; exact h)]
theorem lifted_lowereds : ∀ (ws : List Wd) (d : Int), ((occs ws d).any fun x => decide (x = 0)) = false → vmaps (shF 1) (vmaps (shF (-1)) ws d) d = ws
  | [], d, h => rfl
  | w :: ws, d, h => by
    rw [occs, List.any_append, Bool.or_eq_false_iff] at h
    rw [vmaps, vmaps, lifted_lowered w d h.1, lifted_lowereds ws d h.2]
end
end PL

namespace PL
open PySem PySem.Spec PyProof.Rows L2
open Wd
/-! ### words as data that is compared -/
/-- all its names are signs -/
def Ok (w : Wd) : Prop := ∀ x ∈ names w, PyData.strOk x = true
theorem str_lit_ok : PyData.strOk "var" = true ∧ PyData.strOk "no" = true ∧ PyData.strOk "fun" = true ∧ PyData.strOk "rel" = true ∧ PyData.strOk "same" = true ∧ PyData.strOk "if" = true ∧ PyData.strOk "all" = true := by decide +kernel
mutual
theorem word_lay0 : ∀ (w : Wd), Ok w → w.data.canLay0 = true
  | .var n, h => by simp [data, PyData.canLay0, PyData.canLayAll0, str_lit_ok]
  | .no, h => by simp [data, PyData.canLay0, PyData.canLayAll0, str_lit_ok]
  | .fn x ps, h => by
    have h1 : PyData.strOk x = true := h x (by rw [names]; exact List.mem_cons_self)
    have h2 := words_lay0 ps fun y hy => h y (by rw [names]; exact List.mem_cons_of_mem _ hy)
    simp [data, PyData.canLay0, PyData.canLayAll0, str_lit_ok, h1, h2]
  | .rel x ps, h => by
    have h1 : PyData.strOk x = true := h x (by rw [names]; exact List.mem_cons_self)
    have h2 := words_lay0 ps fun y hy => h y (by rw [names]; exact List.mem_cons_of_mem _ hy)
    simp [data, PyData.canLay0, PyData.canLayAll0, str_lit_ok, h1, h2]
  | .same a b, h => by
    have h1 := word_lay0 a fun y hy => h y (by rw [names]; exact List.mem_append.mpr (.inl hy))
    have h2 := word_lay0 b fun y hy => h y (by rw [names]; exact List.mem_append.mpr (.inr hy))
    simp [data, PyData.canLay0, PyData.canLayAll0, str_lit_ok, h1, h2]
  | .iff a b, h => by
    have h1 := word_lay0 a fun y hy => h y (by rw [names]; exact List.mem_append.mpr (.inl hy))
    have h2 := word_lay0 b fun y hy => h y (by rw [names]; exact List.mem_append.mpr (.inr hy))
    simp [data, PyData.canLay0, PyData.canLayAll0, str_lit_ok, h1, h2]
  | .all a, h => by
    have h1 := word_lay0 a fun y hy => h y (by rw [names]; exact hy)
    simp [data, PyData.canLay0, PyData.canLayAll0, str_lit_ok, h1]
theorem words_lay0 : ∀ (ws : List Wd), (∀ x ∈ namess ws, PyData.strOk x = true) → PyData.canLayAll0 (datas ws) = true
  | [], h => rfl
  | w :: ws, h => by
    have h1 := word_lay0 w fun y hy => h y (by rw [namess]; exact List.mem_append.mpr (.inl hy))
    have h2 := words_lay0 ws fun y hy => h y (by rw [namess]; exact List.mem_append.mpr (.inr hy))
    simp [datas, PyData.canLayAll0, h1, h2]
end
mutual
theorem word_depth : ∀ (w : Wd), w.data.depth ≤ 2 * w.lay
  | .var n => by simp [data, PyData.depth, PyData.depthAll, lay]
  | .no => by simp [data, PyData.depth, PyData.depthAll, lay]
  | .fn x ps => by have := words_depth ps; simp [data, PyData.depth, PyData.depthAll, lay]; omega
  | .rel x ps => by have := words_depth ps; simp [data, PyData.depth, PyData.depthAll, lay]; omega
  | .same a b => by have := word_depth a; have := word_depth b; simp [data, PyData.depth, PyData.depthAll, lay]; omega
  | .iff a b => by have := word_depth a; have := word_depth b; simp [data, PyData.depth, PyData.depthAll, lay]; omega
  | .all a => by have := word_depth a; simp [data, PyData.depth, PyData.depthAll, lay]; omega
theorem words_depth : ∀ (ws : List Wd), PyData.depthAll (datas ws) ≤ 2 * lays ws
  | [] => by simp [datas, PyData.depthAll]
  | w :: ws => by have := word_depth w; have := words_depth ws; simp [datas, PyData.depthAll, lays]; omega
end
theorem list_lay0 {ws : List Wd} (h : ∀ w ∈ ws, Ok w) : (PyData.list (datas ws)).canLay0 = true := by
  rw [PyData.canLay0]
  exact words_lay0 ws (namess_all h)
/-- equal, as the program weighs it -/
def weq (w u : Wd) : Bool := PyData.eqv w.data u.data
theorem weq_refl {w : Wd} (h : Ok w) : weq w w = true := SeqAt.eqv_refl w.data (word_lay0 w h)
theorem any_datas (p : PyData → Bool) : ∀ ws : List Wd, (datas ws).any p = ws.any fun w => p w.data
  | [] => rfl
  | w :: ws => by rw [datas, List.any_cons, List.any_cons, any_datas p ws]
theorem inM_words (neg : Bool) {w : Wd} {ws : List Wd} (h : Ok w) (hs : ∀ u ∈ ws, Ok u) (hl : w.lay ≤ 95) : inM neg w.data (.list (datas ws)) = some (.bool (xor neg (ws.any fun u => weq u w))) := by
  have hd := word_depth w
  simp only [inM, itemsOf, Option.bind_some]
  rw [if_pos ⟨word_lay0 w h, list_lay0 hs, by omega⟩, any_datas]
  rfl
end PL

namespace PL
open PySem PySem.Spec PyProof.Rows L2
open Wd
/-! ### atoms -/
/-- small and of signs -/
def Sm (n : Nat) (w : Wd) : Prop := Ok w ∧ w.lay ≤ n
theorem Sm.iff {n : Nat} {a b : Wd} (h : Sm n (.iff a b)) : Sm n a ∧ Sm n b := by
  obtain ⟨h1, h2⟩ := h
  rw [lay] at h2
  exact ⟨⟨fun y hy => h1 y (by rw [names]; exact List.mem_append.mpr (.inl hy)), by omega⟩, ⟨fun y hy => h1 y (by rw [names]; exact List.mem_append.mpr (.inr hy)), by omega⟩⟩
/-! ### so -/
/-! ### all rows -/
/-! ### the refuter -/
end PL

namespace PL
open PySem PySem.Spec PyProof.Rows L2
open Wd
/-! ### what is weighed equal is the same word -/
theorem str_ne : (Str.ofString "var" == Str.ofString "no") = false ∧ (Str.ofString "fun" == Str.ofString "rel") = false ∧ (Str.ofString "rel" == Str.ofString "fun") = false ∧ (Str.ofString "same" == Str.ofString "if") = false ∧ (Str.ofString "if" == Str.ofString "same") = false ∧
  (Str.ofString "fun" == Str.ofString "same") = false ∧ (Str.ofString "fun" == Str.ofString "if") = false ∧ (Str.ofString "rel" == Str.ofString "same") = false ∧ (Str.ofString "rel" == Str.ofString "if") = false ∧ (Str.ofString "same" == Str.ofString "fun") = false ∧ (Str.ofString "same" == Str.ofString "rel") = false ∧
  (Str.ofString "if" == Str.ofString "fun") = false ∧ (Str.ofString "if" == Str.ofString "rel") = false ∧ (Str.ofString "var" == Str.ofString "all") = false ∧ (Str.ofString "all" == Str.ofString "var") = false := by decide +kernel
theorem q_tup (xs ys : List PyData) : PyData.eqv (.tuple xs) (.tuple ys) = PyData.eqvAll xs ys := by simp only [PyData.eqv]
theorem q_str (x y : Str) : PyData.eqv (.str x) (.str y) = (x == y) := by simp only [PyData.eqv]
theorem q_int (x y : Int) : PyData.eqv (.int x) (.int y) = (x == y) := by simp only [PyData.eqv]
theorem q_cc (x y : PyData) (xs ys : List PyData) : PyData.eqvAll (x :: xs) (y :: ys) = (PyData.eqv x y && PyData.eqvAll xs ys) := by simp only [PyData.eqvAll]
theorem q_nc (y : PyData) (ys : List PyData) : PyData.eqvAll [] (y :: ys) = false := by simp only [PyData.eqvAll]
theorem q_cn (y : PyData) (ys : List PyData) : PyData.eqvAll (y :: ys) [] = false := by simp only [PyData.eqvAll]
theorem q_nn : PyData.eqvAll [] [] = true := by simp only [PyData.eqvAll]
theorem weqs_of : ∀ (ws us : List Wd), (∀ w ∈ ws, ∀ u, PyData.eqv w.data u.data = true → w = u) → PyData.eqvAll (datas ws) (datas us) = true → ws = us
  | [], [], _, h => rfl
  | [], u :: us, _, h => by simp only [data, datas, q_tup, q_str, q_int, q_cc, q_nc, q_cn, q_nn, str_ne, Bool.and_false, Bool.false_and, Bool.and_true, Bool.and_eq_true, beq_iff_eq, Bool.false_eq_true, BEq.rfl, true_and] at h
  | w :: ws, [], _, h => by simp only [data, datas, q_tup, q_str, q_int, q_cc, q_nc, q_cn, q_nn, str_ne, Bool.and_false, Bool.false_and, Bool.and_true, Bool.and_eq_true, beq_iff_eq, Bool.false_eq_true, BEq.rfl, true_and] at h
  | w :: ws, u :: us, k, h => by
    simp only [data, datas, q_tup, q_str, q_int, q_cc, q_nc, q_cn, q_nn, str_ne, Bool.and_false, Bool.false_and, Bool.and_true, Bool.and_eq_true, beq_iff_eq, Bool.false_eq_true, BEq.rfl, true_and] at h
    rw [k w (.head _) u h.1, weqs_of ws us (fun w hw => k w (.tail _ hw)) h.2]
theorem weq_eq' : ∀ (n : Nat) (w u : Wd), w.lay ≤ n → PyData.eqv w.data u.data = true → w = u
  | 0, w, u, hl, h => by have := w.lay_pos; omega
  | n + 1, w, u, hl, h => by
    have kid : ∀ k ∈ w.kids, ∀ u, PyData.eqv k.data u.data = true → k = u := fun k hk u => weq_eq' n k u (kids_le hl hk)
    cases w with
    | var m => cases u <;> simp only [data, datas, q_tup, q_str, q_int, q_cc, q_nc, q_cn, q_nn, str_ne, Bool.and_false, Bool.false_and, Bool.and_true, Bool.and_eq_true, beq_iff_eq, Bool.false_eq_true, BEq.rfl, true_and] at h <;> (rw [h])
    | no => cases u <;> simp only [data, datas, q_tup, q_str, q_int, q_cc, q_nc, q_cn, q_nn, str_ne, Bool.and_false, Bool.false_and, Bool.and_true, Bool.and_eq_true, beq_iff_eq, Bool.false_eq_true, BEq.rfl, true_and] at h <;> rfl
    | fn x ps =>
      cases u with
      | fn y qs =>
        simp only [data, datas, q_tup, q_str, q_int, q_cc, q_nc, q_cn, q_nn, str_ne, Bool.and_false, Bool.false_and, Bool.and_true, Bool.and_eq_true, beq_iff_eq, Bool.false_eq_true, BEq.rfl, true_and] at h
        rw [h.1, weqs_of ps qs kid h.2]
      | _ => simp only [data, datas, q_tup, q_str, q_int, q_cc, q_nc, q_cn, q_nn, str_ne, Bool.and_false, Bool.false_and, Bool.and_true, Bool.and_eq_true, beq_iff_eq, Bool.false_eq_true, BEq.rfl, true_and] at h
    | rel x ps =>
      cases u with
      | rel y qs =>
        simp only [data, datas, q_tup, q_str, q_int, q_cc, q_nc, q_cn, q_nn, str_ne, Bool.and_false, Bool.false_and, Bool.and_true, Bool.and_eq_true, beq_iff_eq, Bool.false_eq_true, BEq.rfl, true_and] at h
        rw [h.1, weqs_of ps qs kid h.2]
      | _ => simp only [data, datas, q_tup, q_str, q_int, q_cc, q_nc, q_cn, q_nn, str_ne, Bool.and_false, Bool.false_and, Bool.and_true, Bool.and_eq_true, beq_iff_eq, Bool.false_eq_true, BEq.rfl, true_and] at h
    | same a b =>
      cases u with
      | same c d =>
        simp only [data, datas, q_tup, q_str, q_int, q_cc, q_nc, q_cn, q_nn, str_ne, Bool.and_false, Bool.false_and, Bool.and_true, Bool.and_eq_true, beq_iff_eq, Bool.false_eq_true, BEq.rfl, true_and] at h
        rw [kid a (by simp [kids]) c h.1, kid b (by simp [kids]) d h.2]
      | _ => simp only [data, datas, q_tup, q_str, q_int, q_cc, q_nc, q_cn, q_nn, str_ne, Bool.and_false, Bool.false_and, Bool.and_true, Bool.and_eq_true, beq_iff_eq, Bool.false_eq_true, BEq.rfl, true_and] at h
    | iff a b =>
      cases u with
      | iff c d =>
        simp only [data, datas, q_tup, q_str, q_int, q_cc, q_nc, q_cn, q_nn, str_ne, Bool.and_false, Bool.false_and, Bool.and_true, Bool.and_eq_true, beq_iff_eq, Bool.false_eq_true, BEq.rfl, true_and] at h
        rw [kid a (by simp [kids]) c h.1, kid b (by simp [kids]) d h.2]
      | _ => simp only [data, datas, q_tup, q_str, q_int, q_cc, q_nc, q_cn, q_nn, str_ne, Bool.and_false, Bool.false_and, Bool.and_true, Bool.and_eq_true, beq_iff_eq, Bool.false_eq_true, BEq.rfl, true_and] at h
    | all a =>
      cases u with
      | all c =>
        simp only [data, datas, q_tup, q_str, q_int, q_cc, q_nc, q_cn, q_nn, str_ne, Bool.and_false, Bool.false_and, Bool.and_true, Bool.and_eq_true, beq_iff_eq, Bool.false_eq_true, BEq.rfl, true_and] at h
        rw [kid a (by simp [kids]) c h]
      | _ => simp only [data, datas, q_tup, q_str, q_int, q_cc, q_nc, q_cn, q_nn, str_ne, Bool.and_false, Bool.false_and, Bool.and_true, Bool.and_eq_true, beq_iff_eq, Bool.false_eq_true, BEq.rfl, true_and] at h
theorem weq_eq (w u : Wd) (h : PyData.eqv w.data u.data = true) : w = u := weq_eq' w.lay w u (Nat.le_refl _) h
theorem weq_iff {w u : Wd} (h : Ok w) : weq w u = true ↔ w = u := ⟨weq_eq w u, fun e => by subst e; exact weq_refl h⟩
theorem neM_words {w u : Wd} (hw : Ok w) (hu : Ok u) (hl : w.lay ≤ 100) : neM w.data u.data = some (.bool (!weq w u)) := by
  have hd := word_depth w
  unfold neM
  rw [if_pos ⟨word_lay0 w hw, word_lay0 u hu, by omega⟩]
  rfl
/-! ### layers, alls within alls, the bounds of a conclusion -/
def maxs (f : Wd → Nat) : List Wd → Nat
  | [] => 0
  | w :: ws => max (f w) (maxs f ws)
theorem maxs_app (f : Wd → Nat) : ∀ us ws : List Wd, maxs f (us ++ ws) = max (maxs f us) (maxs f ws)
  | [], ws => by simp [maxs]
  | u :: us, ws => by rw [List.cons_append, maxs, maxs, maxs_app f us ws]; omega
theorem lays_maxs : ∀ ws, lays ws = maxs lay ws
  | [] => rfl
  | w :: ws => by rw [lays, maxs, lays_maxs ws]
theorem maxM_nat (a b : Nat) : maxM (.int (a : Int)) (.int (b : Int)) = some (.int ((max a b : Nat) : Int)) := by
  show some (PyData.int (if (b : Int) > (a : Int) then (b : Int) else (a : Int))) = _
  congr 2
  split <;> omega
theorem layers_fn : ∀ (n : Nat) (w : Wd), w.lay ≤ n → layers_m n [.d w.data] = .ret (.int (w.lay : Nat)) []
  | 0, w, h => by have := w.lay_pos; omega
  | n + 1, w, h => by
    rw [layers_m]
    refine fn_ret rfl (by simp [isO]) ?_
    refine Ends.nx (ρ' := [.d w.data, .d (.int ((0 : Nat) : Int)), .nil]) rfl ?_
    refine Ends.go _ (Ends.forG (g := Wd.data) (all := w.kids) (fun vs ρ => ∃ s, ρ = [.d w.data, .d (.int ((maxs lay vs : Nat) : Int)), s] ∧ isO (some s) = false) (by simp only [runF, sSeq, sIf, sRet, sAsg, sNew, sApp, sSkip_ap, sFor, sForZ, mCall, mCons, mNil, mV, mVA, mC, mBin, mUn, mTest, mAndT, mOrT, mNotT, mAnd, mOr, mNot, mBl, bl?, mIf, mTup, mLst, mSl, mSome, mNo, mComp, mIt, mItB, mR1, mR2, mR1c, mZ, mZB, mYes, mkArgs, outs, itemsOf, isO, listM, tupleM, lenM, intM, subM_i, ltM_i, leM_i, gtM_i, geM_i, addM, Option.bind_some, Option.bind_none, Option.map_some, Option.map_none, List.length_cons, List.length_nil, List.getElem?_cons_zero, List.getElem?_cons_succ, List.set_cons_zero, List.set_cons_succ, List.cons_append, List.nil_append, List.append_nil, List.replicate, if_true, if_false, Nat.reduceAdd, Nat.reduceSub, Nat.reduceLeDiff, Nat.reduceEqDiff, reduceIte, Bool.false_eq_true, reduceCtorEq, Bool.not_true, Bool.not_false, decide_true, decide_false, id, parts_fn, datas_map]) ⟨_, rfl, rfl⟩ ?_ fun ρ h => ⟨ρ, rfl, h⟩) ?_
    · rintro vs u us ρ e ⟨s, rfl, hs⟩
      refine ⟨hs, _, ?_, .d u.data, rfl, rfl⟩
      have hk := layers_fn n u (kids_le h (by rw [← e]; simp))
      have hc := maxM_nat (maxs lay vs) u.lay
      rw [maxs_app, maxs, maxs, Nat.max_zero]
      simp only [runF, sSeq, sIf, sRet, sAsg, sNew, sApp, sSkip_ap, sFor, sForZ, mCall, mCons, mNil, mV, mVA, mC, mBin, mUn, mTest, mAndT, mOrT, mNotT, mAnd, mOr, mNot, mBl, bl?, mIf, mTup, mLst, mSl, mSome, mNo, mComp, mIt, mItB, mR1, mR2, mR1c, mZ, mZB, mYes, mkArgs, outs, itemsOf, isO, listM, tupleM, lenM, intM, subM_i, ltM_i, leM_i, gtM_i, geM_i, addM, Option.bind_some, Option.bind_none, Option.map_some, Option.map_none, List.length_cons, List.length_nil, List.getElem?_cons_zero, List.getElem?_cons_succ, List.set_cons_zero, List.set_cons_succ, List.cons_append, List.nil_append, List.append_nil, List.replicate, if_true, if_false, Nat.reduceAdd, Nat.reduceSub, Nat.reduceLeDiff, Nat.reduceEqDiff, reduceIte, Bool.false_eq_true, reduceCtorEq, Bool.not_true, Bool.not_false, decide_true, decide_false, id, hk, hc]
    · rintro ρ ⟨s, rfl, hs⟩
      refine Ends.ret (d := .int (w.lay : Nat)) ?_ ⟨_, rfl⟩
      rw [lay_kids, lays_maxs]
      simp only [runF, sSeq, sIf, sRet, sAsg, sNew, sApp, sSkip_ap, sFor, sForZ, mCall, mCons, mNil, mV, mVA, mC, mBin, mUn, mTest, mAndT, mOrT, mNotT, mAnd, mOr, mNot, mBl, bl?, mIf, mTup, mLst, mSl, mSome, mNo, mComp, mIt, mItB, mR1, mR2, mR1c, mZ, mZB, mYes, mkArgs, outs, itemsOf, isO, listM, tupleM, lenM, intM, subM_i, ltM_i, leM_i, gtM_i, geM_i, addM, Option.bind_some, Option.bind_none, Option.map_some, Option.map_none, List.length_cons, List.length_nil, List.getElem?_cons_zero, List.getElem?_cons_succ, List.set_cons_zero, List.set_cons_succ, List.cons_append, List.nil_append, List.append_nil, List.replicate, if_true, if_false, Nat.reduceAdd, Nat.reduceSub, Nat.reduceLeDiff, Nat.reduceEqDiff, reduceIte, Bool.false_eq_true, reduceCtorEq, Bool.not_true, Bool.not_false, decide_true, decide_false, id]
      rfl
/-- alls within alls, of anything -/
def nst : Wd → Nat
  | .var _ => 0
  | .no => 0
  | .fn _ ps => nsts ps
  | .rel _ ps => nsts ps
  | .same a b => max (nst a) (nst b)
  | .iff a b => max (nst a) (nst b)
  | .all a => nst a + 1
where nsts : List Wd → Nat
  | [] => 0
  | w :: ws => max (nst w) (nsts ws)
theorem nsts_maxs : ∀ ws, nst.nsts ws = maxs nst ws
  | [] => rfl
  | w :: ws => by rw [nst.nsts, maxs, nsts_maxs ws]
theorem nst_kids (w : Wd) : nst w = maxs nst w.kids + (if w.isAll = true then 1 else 0) := by
  cases w <;> simp [nst, kids, maxs, nsts_maxs, isAll]
theorem nested_fn : ∀ (n : Nat) (w : Wd), w.lay ≤ n → nested_m n [.d w.data] = .ret (.int (nst w : Nat)) []
  | 0, w, h => by have := w.lay_pos; omega
  | n + 1, w, h => by
    rw [nested_m]
    refine fn_ret rfl (by simp [isO]) ?_
    refine Ends.nx (ρ' := [.d w.data, .d (.int ((0 : Nat) : Int)), .nil]) rfl ?_
    refine Ends.go _ (Ends.forG (g := Wd.data) (all := w.kids) (fun vs ρ => ∃ s, ρ = [.d w.data, .d (.int ((maxs nst vs : Nat) : Int)), s] ∧ isO (some s) = false) (by simp only [runF, sSeq, sIf, sRet, sAsg, sNew, sApp, sSkip_ap, sFor, sForZ, mCall, mCons, mNil, mV, mVA, mC, mBin, mUn, mTest, mAndT, mOrT, mNotT, mAnd, mOr, mNot, mBl, bl?, mIf, mTup, mLst, mSl, mSome, mNo, mComp, mIt, mItB, mR1, mR2, mR1c, mZ, mZB, mYes, mkArgs, outs, itemsOf, isO, listM, tupleM, lenM, intM, subM_i, ltM_i, leM_i, gtM_i, geM_i, addM, Option.bind_some, Option.bind_none, Option.map_some, Option.map_none, List.length_cons, List.length_nil, List.getElem?_cons_zero, List.getElem?_cons_succ, List.set_cons_zero, List.set_cons_succ, List.cons_append, List.nil_append, List.append_nil, List.replicate, if_true, if_false, Nat.reduceAdd, Nat.reduceSub, Nat.reduceLeDiff, Nat.reduceEqDiff, reduceIte, Bool.false_eq_true, reduceCtorEq, Bool.not_true, Bool.not_false, decide_true, decide_false, id, parts_fn, datas_map]) ⟨_, rfl, rfl⟩ ?_ fun ρ h => ⟨ρ, rfl, h⟩) ?_
    · rintro vs u us ρ e ⟨s, rfl, hs⟩
      refine ⟨hs, _, ?_, .d u.data, rfl, rfl⟩
      have hk := nested_fn n u (kids_le h (by rw [← e]; simp))
      have hc := maxM_nat (maxs nst vs) (nst u)
      rw [maxs_app, maxs, maxs, Nat.max_zero]
      simp only [runF, sSeq, sIf, sRet, sAsg, sNew, sApp, sSkip_ap, sFor, sForZ, mCall, mCons, mNil, mV, mVA, mC, mBin, mUn, mTest, mAndT, mOrT, mNotT, mAnd, mOr, mNot, mBl, bl?, mIf, mTup, mLst, mSl, mSome, mNo, mComp, mIt, mItB, mR1, mR2, mR1c, mZ, mZB, mYes, mkArgs, outs, itemsOf, isO, listM, tupleM, lenM, intM, subM_i, ltM_i, leM_i, gtM_i, geM_i, addM, Option.bind_some, Option.bind_none, Option.map_some, Option.map_none, List.length_cons, List.length_nil, List.getElem?_cons_zero, List.getElem?_cons_succ, List.set_cons_zero, List.set_cons_succ, List.cons_append, List.nil_append, List.append_nil, List.replicate, if_true, if_false, Nat.reduceAdd, Nat.reduceSub, Nat.reduceLeDiff, Nat.reduceEqDiff, reduceIte, Bool.false_eq_true, reduceCtorEq, Bool.not_true, Bool.not_false, decide_true, decide_false, id, hk, hc]
    · rintro ρ ⟨s, rfl, hs⟩
      refine Ends.ret (d := .int (nst w : Nat)) ?_ ⟨_, rfl⟩
      have hd : w.dep ((maxs nst w.kids : Nat) : Int) = ((nst w : Nat) : Int) := by
        rw [nst_kids]; unfold Wd.dep; split <;> omega
      simp only [runF, sSeq, sIf, sRet, sAsg, sNew, sApp, sSkip_ap, sFor, sForZ, mCall, mCons, mNil, mV, mVA, mC, mBin, mUn, mTest, mAndT, mOrT, mNotT, mAnd, mOr, mNot, mBl, bl?, mIf, mTup, mLst, mSl, mSome, mNo, mComp, mIt, mItB, mR1, mR2, mR1c, mZ, mZB, mYes, mkArgs, outs, itemsOf, isO, listM, tupleM, lenM, intM, subM_i, ltM_i, leM_i, gtM_i, geM_i, addM, Option.bind_some, Option.bind_none, Option.map_some, Option.map_none, List.length_cons, List.length_nil, List.getElem?_cons_zero, List.getElem?_cons_succ, List.set_cons_zero, List.set_cons_succ, List.cons_append, List.nil_append, List.append_nil, List.replicate, if_true, if_false, Nat.reduceAdd, Nat.reduceSub, Nat.reduceLeDiff, Nat.reduceEqDiff, reduceIte, Bool.false_eq_true, reduceCtorEq, Bool.not_true, Bool.not_false, decide_true, decide_false, id, inward_fn, hd]
/-- a form keeps the bounds -/
def fairB (w : Wd) : Bool := decide (kn w ≤ 300) && (decide (w.lay ≤ 60) && decide (nst w ≤ 6))
theorem fair_fn (w : Wd) (h : w.lay ≤ 140) : fair_m [.d w.data] = .ret (.bool (fairB w)) [] := by
  have h1 := knots_fn 140 w h
  have h2 := layers_fn 140 w h
  have h3 := nested_fn 140 w h
  have e1 : decide (((kn w : Nat) : Int) ≤ 300) = decide (kn w ≤ 300) := by by_cases z : kn w ≤ 300 <;> simp [z] <;> omega
  have e2 : decide (((w.lay : Nat) : Int) ≤ 60) = decide (w.lay ≤ 60) := by by_cases z : w.lay ≤ 60 <;> simp [z] <;> omega
  have e3 : decide (((nst w : Nat) : Int) ≤ 6) = decide (nst w ≤ 6) := by by_cases z : nst w ≤ 6 <;> simp [z] <;> omega
  unfold fairB
  simp only [fair_m, fair_b, runF, sSeq, sIf, sRet, sAsg, sNew, sApp, sSkip_ap, sFor, sForZ, mCall, mCons, mNil, mV, mVA, mC, mBin, mUn, mTest, mAndT, mOrT, mNotT, mAnd, mOr, mNot, mBl, bl?, mIf, mTup, mLst, mSl, mSome, mNo, mComp, mIt, mItB, mR1, mR2, mR1c, mZ, mZB, mYes, mkArgs, outs, itemsOf, isO, listM, tupleM, lenM, intM, subM_i, ltM_i, leM_i, gtM_i, geM_i, addM, Option.bind_some, Option.bind_none, Option.map_some, Option.map_none, List.length_cons, List.length_nil, List.getElem?_cons_zero, List.getElem?_cons_succ, List.set_cons_zero, List.set_cons_succ, List.cons_append, List.nil_append, List.append_nil, List.replicate, if_true, if_false, Nat.reduceAdd, Nat.reduceSub, Nat.reduceLeDiff, Nat.reduceEqDiff, reduceIte, Bool.false_eq_true, reduceCtorEq, Bool.not_true, Bool.not_false, decide_true, decide_false, id, h1, h2, h3, e1, e2, e3]
  cases decide (kn w ≤ 300) <;> cases decide (w.lay ≤ 60) <;> cases decide (nst w ≤ 6) <;> rfl
end PL

namespace PL
open PySem PySem.Spec PyProof.Rows L2
open Wd
/-! ### halls -/
structure Seal where
  under : List Wd
  said : Wd
  bases : List Int
  given : List Int
def intsT (xs : List Int) : PyData := .tuple (xs.map .int)
def Seal.data (s : Seal) : PyData := .tuple [.tuple (datas s.under), s.said.data, intsT s.bases, intsT s.given]
def hallFs (S : List Seal) (G : List Wd) : List (Str × Fl) := [(("seals" : Str), Fl.l (S.map Seal.data)), (("ground" : Str), Fl.l (datas G))]
def hallOb (S : List Seal) (G : List Wd) : Ob := .ins "Hall" (hallFs S G)
theorem gs_ne : (Str.ofString "ground" == Str.ofString "seals") = false := by decide +kernel
theorem look_seals (S : List Seal) (G : List Wd) : (hallFs S G).lookup ("seals" : Str) = some (.l (S.map Seal.data)) := by
  unfold hallFs; rw [List.lookup_cons, BEq.rfl]
theorem look_ground (S : List Seal) (G : List Wd) : (hallFs S G).lookup ("ground" : Str) = some (.l (datas G)) := by
  unfold hallFs; rw [List.lookup_cons, gs_ne, List.lookup_cons, BEq.rfl]
theorem look_no (S : List Seal) (G : List Wd) {m : Str} (h1 : (m == Str.ofString "seals") = false) (h2 : (m == Str.ofString "ground") = false) : (hallFs S G).lookup m = none := by
  unfold hallFs; rw [List.lookup_cons, h1, List.lookup_cons, h2]; rfl
theorem put_seals (S : List Seal) (G : List Wd) (d : List PyData) : putFl "seals" (.l d) (hallFs S G) = [(("seals" : Str), Fl.l d), (("ground" : Str), Fl.l (datas G))] := by
  unfold hallFs; rw [putFl, if_pos rfl]
theorem sg_ne : ¬ (Str.ofString "seals" = Str.ofString "ground") := by decide +kernel
theorem put_ground (S : List Seal) (G : List Wd) (d : List PyData) : putFl "ground" (.l d) (hallFs S G) = [(("seals" : Str), Fl.l (S.map Seal.data)), (("ground" : Str), Fl.l d)] := by
  unfold hallFs; rw [putFl, if_neg sg_ne, putFl, if_pos rfl]
/-! statements that call -/
theorem asgX_ok {i : Nat} {m : MX} {ρ ρ1 : Rho} {d : PyData} (h : m ρ = .val d ρ1) (ho : isO ρ1[i]? = false) : sAsgX i m ρ = .nx (ρ1.set i (.d d)) := by
  unfold sAsgX; rw [h]; dsimp only; rw [ho]; rfl
theorem asgX_ex {i : Nat} {m : MX} {ρ ρ1 : Rho} {c : Str} (h : m ρ = .ex c ρ1) : sAsgX i m ρ = .ex c ρ1 := by unfold sAsgX; rw [h]
theorem retX_ok {m : MX} {ρ ρ1 : Rho} {d : PyData} (h : m ρ = .val d ρ1) : sRetX m ρ = .rt d ρ1 := by unfold sRetX; rw [h]
theorem retX_ex {m : MX} {ρ ρ1 : Rho} {c : Str} (h : m ρ = .ex c ρ1) : sRetX m ρ = .ex c ρ1 := by unfold sRetX; rw [h]
theorem rix_d : ∀ ds : List PyData, rix (ds.map XA.d) = []
  | [] => rfl
  | d :: ds => rix_d ds
theorem oix_d : ∀ ds : List PyData, oix (ds.map XA.d) = []
  | [] => rfl
  | d :: ds => oix_d ds
theorem okA_r (i : Nat) (ds : List PyData) : okA (.r i :: ds.map XA.d) = true := by
  have h1 : oix (.r i :: ds.map XA.d) = [] := oix_d ds
  have h2 : rix (.r i :: ds.map XA.d) = [i] := congrArg (i :: ·) (rix_d ds)
  unfold okA; rw [h1, h2]; rfl
theorem okA_o (i : Nat) (ds : List PyData) : okA (.o i :: ds.map XA.d) = true := by
  have h1 : oix (.o i :: ds.map XA.d) = [i] := congrArg (i :: ·) (oix_d ds)
  have h2 : rix (.o i :: ds.map XA.d) = [] := rix_d ds
  unfold okA; rw [h1, h2]; simp
theorem sls_d (ρ : Rho) : ∀ ds : List PyData, slsOf ρ (ds.map XA.d) = some (ds.map Sl.d)
  | [] => rfl
  | d :: ds => by rw [List.map_cons, slsOf, sls_d ρ ds]; rfl
theorem putB_d : ∀ (ds : List PyData) (obs : List Ob) (ρ : Rho), putB (ds.map XA.d) obs ρ = ρ
  | [], [], _ => rfl
  | [], _ :: _, _ => rfl
  | d :: ds, [], ρ => putB_d ds [] ρ
  | d :: ds, ob :: obs, ρ => putB_d ds (ob :: obs) ρ
/-- a method that reads the hall -/
theorem meth_r {ρ : Rho} {i : Nat} {S : List Seal} {G : List Wd} {nm : Str} {fm : FM} {ms : MXs} {ds : List PyData} (h : ρ[i]? = some (.o (hallOb S G)) ∨ ρ[i]? = some (.r (hallOb S G))) (h1 : (nm == Str.ofString "seals") = false) (h2 : (nm == Str.ofString "ground") = false) (hm : ms ρ = .vals (ds.map .d) ρ) :
    xMeth "Hall" nm (.r i) i fm ms ρ = match fm (.r (hallOb S G) :: ds.map .d) with
      | .ret d _ => .val d ρ
      | .ex c _ => .ex c ρ
      | .stuck => .stuck := by
  have e1 : insOf ρ[i]? = some (("Hall" : Str), hallFs S G) := by rcases h with h | h <;> (rw [h]; rfl)
  have e2 : slOf ρ (.r i) = some (.r (hallOb S G)) := by rcases h with h | h <;> (simp only [slOf, h])
  unfold xMeth
  rw [e1]
  dsimp only
  rw [if_pos ⟨rfl, look_no S G h1 h2⟩]
  unfold xCall xSlot
  rw [e2]
  dsimp only
  rw [hm]
  dsimp only
  rw [okA_r, slsOf, e2, Option.bind_some, sls_d, Option.map_some]
  dsimp only
  generalize fm (.r (hallOb S G) :: ds.map .d) = o
  cases o with
  | ret d obs => cases obs with
    | nil => exact congrArg (XOut.val d) (putB_d ds [] _)
    | cons ob obs => exact congrArg (XOut.val d) (putB_d ds _ _)
  | ex c obs => cases obs with
    | nil => exact congrArg (XOut.ex c) (putB_d ds [] _)
    | cons ob obs => exact congrArg (XOut.ex c) (putB_d ds _ _)
  | stuck => rfl
/-- a method that turns the hall -/
theorem meth_o {ρ : Rho} {i : Nat} {S : List Seal} {G : List Wd} {nm : Str} {fm : FM} {ms : MXs} {ds : List PyData} (h : ρ[i]? = some (.o (hallOb S G))) (h1 : (nm == Str.ofString "seals") = false) (h2 : (nm == Str.ofString "ground") = false) (hm : ms ρ = .vals (ds.map .d) ρ) :
    xMeth "Hall" nm (.o i) i fm ms ρ = xFin (.o i :: ds.map .d) ρ (fm (.o (hallOb S G) :: ds.map .d)) := by
  have e1 : insOf ρ[i]? = some (("Hall" : Str), hallFs S G) := by rw [h]; rfl
  have e2 : slOf ρ (.o i) = some (.o (hallOb S G)) := by simp only [slOf, h]
  unfold xMeth
  rw [e1]
  dsimp only
  rw [if_pos ⟨rfl, look_no S G h1 h2⟩]
  unfold xCall xSlot
  rw [e2]
  dsimp only
  rw [hm]
  dsimp only
  rw [okA_o, slsOf, e2, Option.bind_some, sls_d, Option.map_some]
theorem xFin_ret {ρ : Rho} {i : Nat} {ds : List PyData} {d : PyData} {ob : Ob} : xFin (.o i :: ds.map .d) ρ (.ret d [ob]) = .val d (ρ.set i (.o ob)) := congrArg (XOut.val d) (putB_d ds [] _)
theorem xFin_ex {ρ : Rho} {i : Nat} {ds : List PyData} {c : Str} {ob : Ob} : xFin (.o i :: ds.map .d) ρ (.ex c [ob]) = .ex c (ρ.set i (.o ob)) := congrArg (XOut.ex c) (putB_d ds [] _)
/-- a def's end -/
theorem fn_res {n np : Nat} {m : MS} {args : List Sl} {R : FOut} (h : args.length = np) (k : Ends m (args ++ List.replicate (n - np) .nil) fun o => fin args o = R) : runF n np m args = R := by
  rw [runF_fin h]; exact k
theorem attr_seals {ρ : Rho} {i : Nat} {S : List Seal} {G : List Wd} (h : ρ[i]? = some (.o (hallOb S G)) ∨ ρ[i]? = some (.r (hallOb S G))) : mAttrL i "Hall" "seals" ρ = some (.list (S.map Seal.data)) := by
  have e1 : insOf ρ[i]? = some (("Hall" : Str), hallFs S G) := by rcases h with h | h <;> (rw [h]; rfl)
  unfold mAttrL
  rw [e1]
  dsimp only
  rw [if_pos rfl, look_seals]
theorem attr_ground {ρ : Rho} {i : Nat} {S : List Seal} {G : List Wd} (h : ρ[i]? = some (.o (hallOb S G)) ∨ ρ[i]? = some (.r (hallOb S G))) : mAttrL i "Hall" "ground" ρ = some (.list (datas G)) := by
  have e1 : insOf ρ[i]? = some (("Hall" : Str), hallFs S G) := by rcases h with h | h <;> (rw [h]; rfl)
  unfold mAttrL
  rw [e1]
  dsimp only
  rw [if_pos rfl, look_ground]
/-! ### seal_at -/
theorem seal_at_ok {S : List Seal} {G : List Wd} {n : Int} {s : Seal} (h0 : 0 ≤ n) (hs : S[n.toNat]? = some s) : Hall_seal_at_m [.r (hallOb S G), .d (.int n)] = .ret s.data [] := by
  have hl : n.toNat < S.length := (List.getElem?_eq_some_iff.mp hs).1
  have ha := attr_seals (ρ := [.r (hallOb S G), .d (.int n)]) (i := 0) (S := S) (G := G) (.inr rfl)
  have hlen : lenM (.list (S.map Seal.data)) = some (.int (S.length : Int)) := by simp only [lenM, List.length_map]
  have hg : (S.map Seal.data)[n.toNat]? = some s.data := by rw [List.getElem?_map, hs]; rfl
  have e := atI_nat hg
  rw [show ((n.toNat : Nat) : Int) = n by omega] at e
  have e2 : ixM (.list (S.map Seal.data)) (.int n) = some s.data := e
  have d1 : decide ((0 : Int) ≤ n) = true := decide_eq_true h0
  have d2 : decide (n < (S.length : Int)) = true := decide_eq_true (by omega)
  simp only [Hall_seal_at_m, Hall_seal_at_b, runF, sSeq, sIf, sRet, sAsg, sNew, sApp, sSkip_ap, sFor, sForZ, mCall, mCons, mNil, mV, mVA, mC, mBin, mUn, mTest, mAndT, mOrT, mNotT, mAnd, mOr, mNot, mBl, bl?, mIf, mTup, mLst, mSl, mSome, mNo, mComp, mIt, mItB, mR1, mR2, mR1c, mZ, mZB, mYes, mkArgs, outs, itemsOf, isO, listM, tupleM, intM, subM_i, ltM_i, leM_i, gtM_i, geM_i, addM, Option.bind_some, Option.bind_none, Option.map_some, Option.map_none, List.length_cons, List.length_nil, List.getElem?_cons_zero, List.getElem?_cons_succ, List.set_cons_zero, List.set_cons_succ, List.cons_append, List.nil_append, List.append_nil, List.replicate, if_true, if_false, Nat.reduceAdd, Nat.reduceSub, Nat.reduceLeDiff, Nat.reduceEqDiff, reduceIte, Bool.false_eq_true, reduceCtorEq, Bool.not_true, Bool.not_false, decide_true, decide_false, id, mChain, ha, hlen, d1, d2, e2]
theorem seal_at_no {S : List Seal} {G : List Wd} {n : Int} (h : ¬ (0 ≤ n ∧ n < S.length)) : Hall_seal_at_m [.r (hallOb S G), .d (.int n)] = .ex "NoSeal" [] := by
  have ha := attr_seals (ρ := [.r (hallOb S G), .d (.int n)]) (i := 0) (S := S) (G := G) (.inr rfl)
  have hlen : lenM (.list (S.map Seal.data)) = some (.int (S.length : Int)) := by simp only [lenM, List.length_map]
  by_cases h0 : 0 ≤ n
  · have d1 : decide ((0 : Int) ≤ n) = true := decide_eq_true h0
    have d2 : decide (n < (S.length : Int)) = false := decide_eq_false fun z => h ⟨h0, z⟩
    simp only [Hall_seal_at_m, Hall_seal_at_b, runF, sSeq, sIf, sRet, sAsg, sNew, sApp, sSkip_ap, sFor, sForZ, mCall, mCons, mNil, mV, mVA, mC, mBin, mUn, mTest, mAndT, mOrT, mNotT, mAnd, mOr, mNot, mBl, bl?, mIf, mTup, mLst, mSl, mSome, mNo, mComp, mIt, mItB, mR1, mR2, mR1c, mZ, mZB, mYes, mkArgs, outs, itemsOf, isO, listM, tupleM, intM, subM_i, ltM_i, leM_i, gtM_i, geM_i, addM, Option.bind_some, Option.bind_none, Option.map_some, Option.map_none, List.length_cons, List.length_nil, List.getElem?_cons_zero, List.getElem?_cons_succ, List.set_cons_zero, List.set_cons_succ, List.cons_append, List.nil_append, List.append_nil, List.replicate, if_true, if_false, Nat.reduceAdd, Nat.reduceSub, Nat.reduceLeDiff, Nat.reduceEqDiff, reduceIte, Bool.false_eq_true, reduceCtorEq, Bool.not_true, Bool.not_false, decide_true, decide_false, id, mChain, ha, hlen, d1, d2, sExc]
  · have d1 : decide ((0 : Int) ≤ n) = false := decide_eq_false h0
    simp only [Hall_seal_at_m, Hall_seal_at_b, runF, sSeq, sIf, sRet, sAsg, sNew, sApp, sSkip_ap, sFor, sForZ, mCall, mCons, mNil, mV, mVA, mC, mBin, mUn, mTest, mAndT, mOrT, mNotT, mAnd, mOr, mNot, mBl, bl?, mIf, mTup, mLst, mSl, mSome, mNo, mComp, mIt, mItB, mR1, mR2, mR1c, mZ, mZB, mYes, mkArgs, outs, itemsOf, isO, listM, tupleM, intM, subM_i, ltM_i, leM_i, gtM_i, geM_i, addM, Option.bind_some, Option.bind_none, Option.map_some, Option.map_none, List.length_cons, List.length_nil, List.getElem?_cons_zero, List.getElem?_cons_succ, List.set_cons_zero, List.set_cons_succ, List.cons_append, List.nil_append, List.append_nil, List.replicate, if_true, if_false, Nat.reduceAdd, Nat.reduceSub, Nat.reduceLeDiff, Nat.reduceEqDiff, reduceIte, Bool.false_eq_true, reduceCtorEq, Bool.not_true, Bool.not_false, decide_true, decide_false, id, mChain, ha, hlen, d1, sExc]
/-! ### sealed -/
def fitB (u : List Wd) (w : Wd) : Bool := decide (u.length ≤ 64) && fairB w
/-- a row handed in, a list or a tuple -/
structure RowIs (U : PyData) (ds : List PyData) : Prop where
  it : itemsOf U = some ds
theorem RowIs.len {U : PyData} {ds : List PyData} (h : RowIs U ds) : lenM U = some (.int (ds.length : Int)) := by
  cases U with
  | list xs => cases h.it; rfl
  | tuple xs => cases h.it; rfl
  | _ => cases h.it
theorem RowIs.tup {U : PyData} {ds : List PyData} (h : RowIs U ds) : tupleM U = some (.tuple ds) := by unfold tupleM; rw [h.it]; rfl
theorem sealed_fn {S : List Seal} {G : List Wd} {U Bs Gv : PyData} {u : List Wd} {w : Wd} {bs gv : List Int} (hU : RowIs U (datas u)) (hB : RowIs Bs (bs.map .int)) (hG : RowIs Gv (gv.map .int)) (hw : w.lay ≤ 140) (hS : S.length ≤ 2 ^ 20) :
    Hall_sealed_m [.o (hallOb S G), .d U, .d w.data, .d Bs, .d Gv] = if fitB u w = true then .ret (.int (S.length : Int)) [hallOb (S ++ [⟨u, w, bs, gv⟩]) G] else .ex "TooLarge" [hallOb S G] := by
  have hlen := hU.len
  rw [datas_len] at hlen
  have hf := fair_fn w hw
  rw [Hall_sealed_m]
  refine fn_res rfl ?_
  by_cases hu : u.length ≤ 64
  · have d1 : decide ((64 : Int) < (u.length : Int)) = false := decide_eq_false (by omega)
    cases hfb : fairB w with
    | false =>
      rw [hfb] at hf
      have : fitB u w = false := by unfold fitB; rw [hfb, Bool.and_false]
      rw [this]
      refine Ends.seq (.last (o := .ex "TooLarge" _) (by simp only [runF, sSeq, sIf, sRet, sAsg, sNew, sApp, sSkip_ap, sFor, sForZ, mCall, mCons, mNil, mV, mVA, mC, mBin, mUn, mTest, mAndT, mOrT, mNotT, mAnd, mOr, mNot, mBl, bl?, mIf, mTup, mLst, mSl, mSome, mNo, mComp, mIt, mItB, mR1, mR2, mR1c, mZ, mZB, mYes, mkArgs, outs, itemsOf, isO, listM, tupleM, intM, subM_i, ltM_i, leM_i, gtM_i, geM_i, addM, Option.bind_some, Option.bind_none, Option.map_some, Option.map_none, List.length_cons, List.length_nil, List.getElem?_cons_zero, List.getElem?_cons_succ, List.set_cons_zero, List.set_cons_succ, List.cons_append, List.nil_append, List.append_nil, List.replicate, if_true, if_false, Nat.reduceAdd, Nat.reduceSub, Nat.reduceLeDiff, Nat.reduceEqDiff, reduceIte, Bool.false_eq_true, reduceCtorEq, Bool.not_true, Bool.not_false, decide_true, decide_false, id, hlen, d1, hf, sExc]; rfl) (.inr ⟨(by intro ρ z; cases z), rfl⟩))
    | true =>
      rw [hfb] at hf
      have : fitB u w = true := by unfold fitB; rw [hfb, decide_eq_true hu]; rfl
      rw [this, if_pos rfl]
      refine Ends.nx (by simp only [runF, sSeq, sIf, sRet, sAsg, sNew, sApp, sSkip_ap, sFor, sForZ, mCall, mCons, mNil, mV, mVA, mC, mBin, mUn, mTest, mAndT, mOrT, mNotT, mAnd, mOr, mNot, mBl, bl?, mIf, mTup, mLst, mSl, mSome, mNo, mComp, mIt, mItB, mR1, mR2, mR1c, mZ, mZB, mYes, mkArgs, outs, itemsOf, isO, listM, tupleM, intM, subM_i, ltM_i, leM_i, gtM_i, geM_i, addM, Option.bind_some, Option.bind_none, Option.map_some, Option.map_none, List.length_cons, List.length_nil, List.getElem?_cons_zero, List.getElem?_cons_succ, List.set_cons_zero, List.set_cons_succ, List.cons_append, List.nil_append, List.append_nil, List.replicate, if_true, if_false, Nat.reduceAdd, Nat.reduceSub, Nat.reduceLeDiff, Nat.reduceEqDiff, reduceIte, Bool.false_eq_true, reduceCtorEq, Bool.not_true, Bool.not_false, decide_true, decide_false, id, hlen, d1, hf]; rfl) ?_
      have hz : (S.map Seal.data).length < sizeLine := by rw [List.length_map, sizeLine_eq]; omega
      refine Ends.nx (ρ' := [.o (hallOb (S ++ [⟨u, w, bs, gv⟩]) G), .d U, .d w.data, .d Bs, .d Gv]) ?_ ?_
      · unfold sAppF
        simp only [List.cons_append, List.nil_append, List.append_nil, List.getElem?_cons_zero, hallOb, if_true, look_seals, mTup, mCons, mUn, mV, mNil, List.getElem?_cons_succ, Option.bind_some, hU.tup, hB.tup, hG.tup, List.length_cons, List.length_nil]
        rw [if_pos (by decide)]
        dsimp only
        rw [if_pos hz, put_seals]
        show Out.nx _ = Out.nx _
        congr 1
        simp only [List.set_cons_zero, hallFs, List.map_append, List.map_cons, List.map_nil, Seal.data, intsT]
      · have ha := attr_seals (ρ := [.o (hallOb (S ++ [⟨u, w, bs, gv⟩]) G), .d U, .d w.data, .d Bs, .d Gv]) (i := 0) (S := S ++ [⟨u, w, bs, gv⟩]) (G := G) (.inl rfl)
        have hl2 : lenM (.list ((S ++ [⟨u, w, bs, gv⟩] : List Seal).map Seal.data)) = some (.int ((S.length : Int) + 1)) := by simp only [lenM, List.length_map, List.length_append, List.length_singleton]; rfl
        have hsub : (S.length : Int) + 1 - 1 = (S.length : Int) := by omega
        refine Ends.ret (d := .int (S.length : Int)) (by simp only [runF, sSeq, sIf, sRet, sAsg, sNew, sApp, sSkip_ap, sFor, sForZ, mCall, mCons, mNil, mV, mVA, mC, mBin, mUn, mTest, mAndT, mOrT, mNotT, mAnd, mOr, mNot, mBl, bl?, mIf, mTup, mLst, mSl, mSome, mNo, mComp, mIt, mItB, mR1, mR2, mR1c, mZ, mZB, mYes, mkArgs, outs, itemsOf, isO, listM, tupleM, intM, subM_i, ltM_i, leM_i, gtM_i, geM_i, addM, Option.bind_some, Option.bind_none, Option.map_some, Option.map_none, List.length_cons, List.length_nil, List.getElem?_cons_zero, List.getElem?_cons_succ, List.set_cons_zero, List.set_cons_succ, List.cons_append, List.nil_append, List.append_nil, List.replicate, if_true, if_false, Nat.reduceAdd, Nat.reduceSub, Nat.reduceLeDiff, Nat.reduceEqDiff, reduceIte, Bool.false_eq_true, reduceCtorEq, Bool.not_true, Bool.not_false, decide_true, decide_false, id, ha, hl2, hsub]) rfl
  · have d1 : decide ((64 : Int) < (u.length : Int)) = true := decide_eq_true (by omega)
    have : fitB u w = false := by unfold fitB; rw [decide_eq_false hu]; rfl
    rw [this]
    refine Ends.seq (.last (o := .ex "TooLarge" _) (by simp only [runF, sSeq, sIf, sRet, sAsg, sNew, sApp, sSkip_ap, sFor, sForZ, mCall, mCons, mNil, mV, mVA, mC, mBin, mUn, mTest, mAndT, mOrT, mNotT, mAnd, mOr, mNot, mBl, bl?, mIf, mTup, mLst, mSl, mSome, mNo, mComp, mIt, mItB, mR1, mR2, mR1c, mZ, mZB, mYes, mkArgs, outs, itemsOf, isO, listM, tupleM, intM, subM_i, ltM_i, leM_i, gtM_i, geM_i, addM, Option.bind_some, Option.bind_none, Option.map_some, Option.map_none, List.length_cons, List.length_nil, List.getElem?_cons_zero, List.getElem?_cons_succ, List.set_cons_zero, List.set_cons_succ, List.cons_append, List.nil_append, List.append_nil, List.replicate, if_true, if_false, Nat.reduceAdd, Nat.reduceSub, Nat.reduceLeDiff, Nat.reduceEqDiff, reduceIte, Bool.false_eq_true, reduceCtorEq, Bool.not_true, Bool.not_false, decide_true, decide_false, id, hlen, d1, sExc]; rfl) (.inr ⟨(by intro ρ z; cases z), rfl⟩))
end PL

namespace PL
open PySem PySem.Spec PyProof.Rows L2
open Wd
/-! ### rows of words -/
theorem compL_flt {i : Nat} {t : MT} {me : ME} {ρ : Rho} {p : Wd → Bool} : ∀ {ws : List Wd}, (∀ w ∈ ws, t (ρ.set i (.d w.data)) = some (p w) ∧ me (ρ.set i (.d w.data)) = some w.data) → compL i t me ρ (datas ws) = some (datas (ws.filter p))
  | [], _ => rfl
  | w :: ws, h => by
    have ih := compL_flt fun u hu => h u (.tail _ hu)
    obtain ⟨h1, h2⟩ := h w (.head _)
    rw [datas, compL, h1, h2, ih, List.filter_cons]
    cases p w <;> rfl
theorem row_list (ws : List Wd) : RowIs (.list (datas ws)) (datas ws) := ⟨rfl⟩
theorem row_tup (ws : List Wd) : RowIs (.tuple (datas ws)) (datas ws) := ⟨rfl⟩
theorem row_lay0 {U : PyData} {ws : List Wd} (hU : RowIs U (datas ws)) (hs : ∀ u ∈ ws, Ok u) : U.canLay0 = true := by
  have h := words_lay0 ws (namess_all hs)
  cases U with
  | list xs => cases hU.it; rw [PyData.canLay0]; exact h
  | tuple xs => cases hU.it; rw [PyData.canLay0]; exact h
  | _ => cases hU.it
theorem inM_row {U : PyData} (neg : Bool) {w : Wd} {ws : List Wd} (hU : RowIs U (datas ws)) (h : Ok w) (hs : ∀ u ∈ ws, Ok u) (hl : w.lay ≤ 95) : inM neg w.data U = some (.bool (xor neg (ws.any fun u => weq u w))) := by
  have hd := word_depth w
  have h0 := row_lay0 hU hs
  cases U with
  | list xs => cases hU.it; exact inM_words neg h hs hl
  | tuple xs =>
    cases hU.it
    simp only [inM, itemsOf, Option.bind_some]
    rw [if_pos ⟨word_lay0 w h, h0, by omega⟩, any_datas]
    rfl
  | _ => cases hU.it
def lessW (ws : List Wd) (w : Wd) : List Wd := ws.filter fun u => !weq u w
def joinW (us ws : List Wd) : List Wd := us ++ ws.filter fun w => !(us.any fun u => weq u w)
theorem without_fn {U : PyData} {ws : List Wd} {w : Wd} (hU : RowIs U (datas ws)) (hs : ∀ u ∈ ws, Ok u ∧ u.lay ≤ 100) (hw : Ok w) : without_m [.d U, .d w.data] = .ret (.list (datas (lessW ws w))) [] := by
  have hi := hU.it
  have hc : compL 2 (mTest (mBin neM (mV 2) (mV 1))) (mV 2) [.d U, .d w.data, .nil] (datas ws) = some (datas (lessW ws w)) := compL_flt fun u hu => by
    have h1 := neM_words (hs u hu).1 hw (hs u hu).2
    exact ⟨by simp only [runF, sSeq, sIf, sRet, sAsg, sNew, sApp, sSkip_ap, sFor, sForZ, mCall, mCons, mNil, mV, mVA, mC, mBin, mUn, mTest, mAndT, mOrT, mNotT, mAnd, mOr, mNot, mBl, bl?, mIf, mTup, mLst, mSl, mSome, mNo, mComp, mIt, mItB, mR1, mR2, mR1c, mZ, mZB, mYes, mkArgs, outs, itemsOf, isO, listM, tupleM, lenM, intM, subM_i, ltM_i, leM_i, gtM_i, geM_i, addM, Option.bind_some, Option.bind_none, Option.map_some, Option.map_none, List.length_cons, List.length_nil, List.getElem?_cons_zero, List.getElem?_cons_succ, List.set_cons_zero, List.set_cons_succ, List.cons_append, List.nil_append, List.append_nil, List.replicate, if_true, if_false, Nat.reduceAdd, Nat.reduceSub, Nat.reduceLeDiff, Nat.reduceEqDiff, reduceIte, Bool.false_eq_true, reduceCtorEq, Bool.not_true, Bool.not_false, decide_true, decide_false, id, h1], by simp only [runF, sSeq, sIf, sRet, sAsg, sNew, sApp, sSkip_ap, sFor, sForZ, mCall, mCons, mNil, mV, mVA, mC, mBin, mUn, mTest, mAndT, mOrT, mNotT, mAnd, mOr, mNot, mBl, bl?, mIf, mTup, mLst, mSl, mSome, mNo, mComp, mIt, mItB, mR1, mR2, mR1c, mZ, mZB, mYes, mkArgs, outs, itemsOf, isO, listM, tupleM, lenM, intM, subM_i, ltM_i, leM_i, gtM_i, geM_i, addM, Option.bind_some, Option.bind_none, Option.map_some, Option.map_none, List.length_cons, List.length_nil, List.getElem?_cons_zero, List.getElem?_cons_succ, List.set_cons_zero, List.set_cons_succ, List.cons_append, List.nil_append, List.append_nil, List.replicate, if_true, if_false, Nat.reduceAdd, Nat.reduceSub, Nat.reduceLeDiff, Nat.reduceEqDiff, reduceIte, Bool.false_eq_true, reduceCtorEq, Bool.not_true, Bool.not_false, decide_true, decide_false, id]⟩
  simp only [without_m, without_b, runF, sSeq, sIf, sRet, sAsg, sNew, sApp, sSkip_ap, sFor, sForZ, mCall, mCons, mNil, mV, mVA, mC, mBin, mUn, mTest, mAndT, mOrT, mNotT, mAnd, mOr, mNot, mBl, bl?, mIf, mTup, mLst, mSl, mSome, mNo, mComp, mIt, mItB, mR1, mR2, mR1c, mZ, mZB, mYes, mkArgs, outs, isO, listM, tupleM, lenM, intM, subM_i, ltM_i, leM_i, gtM_i, geM_i, Option.bind_some, Option.bind_none, Option.map_some, Option.map_none, List.length_cons, List.length_nil, List.getElem?_cons_zero, List.getElem?_cons_succ, List.set_cons_zero, List.set_cons_succ, List.cons_append, List.nil_append, List.append_nil, List.replicate, if_true, if_false, Nat.reduceAdd, Nat.reduceSub, Nat.reduceLeDiff, Nat.reduceEqDiff, reduceIte, Bool.false_eq_true, reduceCtorEq, Bool.not_true, Bool.not_false, decide_true, decide_false, id, hi, hc]
theorem addM_datas {us ws : List Wd} (h : us.length + ws.length ≤ 2 ^ 24) : addM (.list (datas us)) (.list (datas ws)) = some (.list (datas (us ++ ws))) := by
  simp only [addM, datas_len]
  rw [if_pos (by rw [sizeLine_eq]; omega), datas_app]
theorem joined_fn {U V : PyData} {us ws : List Wd} (hU : RowIs U (datas us)) (hV : RowIs V (datas ws)) (hs : ∀ u ∈ us, Ok u) (hw : ∀ w ∈ ws, Ok w ∧ w.lay ≤ 95) (hl : us.length + ws.length ≤ 2 ^ 24) : joined_m [.d U, .d V] = .ret (.list (datas (joinW us ws))) [] := by
  have hi := hU.it
  have hj := hV.it
  have hc : compL 2 (mTest (mBin (inM true) (mV 2) (mV 0))) (mV 2) [.d U, .d V, .nil] (datas ws) = some (datas (ws.filter fun w => !(us.any fun u => weq u w))) := compL_flt fun u hu => by
    have h1 := inM_row true hU (hw u hu).1 hs (hw u hu).2
    rw [Bool.true_xor] at h1
    exact ⟨by simp only [runF, sSeq, sIf, sRet, sAsg, sNew, sApp, sSkip_ap, sFor, sForZ, mCall, mCons, mNil, mV, mVA, mC, mBin, mUn, mTest, mAndT, mOrT, mNotT, mAnd, mOr, mNot, mBl, bl?, mIf, mTup, mLst, mSl, mSome, mNo, mComp, mIt, mItB, mR1, mR2, mR1c, mZ, mZB, mYes, mkArgs, outs, itemsOf, isO, listM, tupleM, lenM, intM, subM_i, ltM_i, leM_i, gtM_i, geM_i, addM, Option.bind_some, Option.bind_none, Option.map_some, Option.map_none, List.length_cons, List.length_nil, List.getElem?_cons_zero, List.getElem?_cons_succ, List.set_cons_zero, List.set_cons_succ, List.cons_append, List.nil_append, List.append_nil, List.replicate, if_true, if_false, Nat.reduceAdd, Nat.reduceSub, Nat.reduceLeDiff, Nat.reduceEqDiff, reduceIte, Bool.false_eq_true, reduceCtorEq, Bool.not_true, Bool.not_false, decide_true, decide_false, id, h1], by simp only [runF, sSeq, sIf, sRet, sAsg, sNew, sApp, sSkip_ap, sFor, sForZ, mCall, mCons, mNil, mV, mVA, mC, mBin, mUn, mTest, mAndT, mOrT, mNotT, mAnd, mOr, mNot, mBl, bl?, mIf, mTup, mLst, mSl, mSome, mNo, mComp, mIt, mItB, mR1, mR2, mR1c, mZ, mZB, mYes, mkArgs, outs, itemsOf, isO, listM, tupleM, lenM, intM, subM_i, ltM_i, leM_i, gtM_i, geM_i, addM, Option.bind_some, Option.bind_none, Option.map_some, Option.map_none, List.length_cons, List.length_nil, List.getElem?_cons_zero, List.getElem?_cons_succ, List.set_cons_zero, List.set_cons_succ, List.cons_append, List.nil_append, List.append_nil, List.replicate, if_true, if_false, Nat.reduceAdd, Nat.reduceSub, Nat.reduceLeDiff, Nat.reduceEqDiff, reduceIte, Bool.false_eq_true, reduceCtorEq, Bool.not_true, Bool.not_false, decide_true, decide_false, id]⟩
  have ha := addM_datas (us := us) (ws := ws.filter fun w => !(us.any fun u => weq u w)) (by have := List.length_filter_le (fun w => !(us.any fun u => weq u w)) ws; omega)
  simp only [runF, sSeq, sIf, sRet, sAsg, sNew, sApp, sSkip_ap, sFor, sForZ, mCall, mCons, mNil, mV, mVA, mC, mBin, mUn, mTest, mAndT, mOrT, mNotT, mAnd, mOr, mNot, mBl, bl?, mIf, mTup, mLst, mSl, mSome, mNo, mComp, mIt, mItB, mR1, mR2, mR1c, mZ, mZB, mYes, mkArgs, outs, isO, listM, tupleM, lenM, intM, subM_i, ltM_i, leM_i, gtM_i, geM_i, Option.bind_some, Option.bind_none, Option.map_some, Option.map_none, List.length_cons, List.length_nil, List.getElem?_cons_zero, List.getElem?_cons_succ, List.set_cons_zero, List.set_cons_succ, List.cons_append, List.nil_append, List.append_nil, List.replicate, if_true, if_false, Nat.reduceAdd, Nat.reduceSub, Nat.reduceLeDiff, Nat.reduceEqDiff, reduceIte, Bool.false_eq_true, reduceCtorEq, Bool.not_true, Bool.not_false, decide_true, decide_false, id, joined_m, joined_b, hi, hj, hc, ha]
  rfl
theorem any_weq {us : List Wd} {w : Wd} (hs : ∀ u ∈ us, Ok u) : (us.any fun u => weq u w) = true ↔ w ∈ us := by
  rw [List.any_eq_true]
  constructor
  · rintro ⟨u, hu, e⟩
    rw [← (weq_iff (hs u hu)).mp e]; exact hu
  · intro h
    exact ⟨w, h, (weq_iff (hs w h)).mpr rfl⟩
/-! numbers of two rows -/
theorem intsOf_map : ∀ xs : List Int, intsOf (xs.map .int) = some xs
  | [] => rfl
  | x :: xs => by rw [List.map_cons, intsOf, intsOf_map xs]; rfl
theorem sortset_ints {xs : List Int} (h : xs.length < 64) : sortsetM (intsD xs) = some (intsD (riseI xs)) := by
  unfold intsD sortsetM
  dsimp only
  rw [intsOf_map, Option.bind_some, if_pos h]
theorem together_fn {A B : PyData} {xs ys : List Int} (hA : RowIs A (xs.map .int)) (hB : RowIs B (ys.map .int)) (h : xs.length + ys.length < 64) : together_m [.d A, .d B] = .ret (intsD (riseI (xs ++ ys))) [] := by
  have h1 : listM A = some (intsD xs) := by unfold listM; rw [hA.it]; rfl
  have h2 : listM B = some (intsD ys) := by unfold listM; rw [hB.it]; rfl
  have ha := addM_ints (xs := xs) (ys := ys) (by omega)
  have hs := sortset_ints (xs := xs ++ ys) (by rw [List.length_append]; exact h)
  simp only [runF, sSeq, sIf, sRet, sAsg, sNew, sApp, sSkip_ap, sFor, sForZ, mCall, mCons, mNil, mV, mVA, mC, mBin, mUn, mTest, mAndT, mOrT, mNotT, mAnd, mOr, mNot, mBl, bl?, mIf, mTup, mLst, mSl, mSome, mNo, mComp, mIt, mItB, mR1, mR2, mR1c, mZ, mZB, mYes, mkArgs, outs, itemsOf, isO, tupleM, lenM, intM, subM_i, ltM_i, leM_i, gtM_i, geM_i, Option.bind_some, Option.bind_none, Option.map_some, Option.map_none, List.length_cons, List.length_nil, List.getElem?_cons_zero, List.getElem?_cons_succ, List.set_cons_zero, List.set_cons_succ, List.cons_append, List.nil_append, List.append_nil, List.replicate, if_true, if_false, Nat.reduceAdd, Nat.reduceSub, Nat.reduceLeDiff, Nat.reduceEqDiff, reduceIte, Bool.false_eq_true, reduceCtorEq, Bool.not_true, Bool.not_false, decide_true, decide_false, id, together_m, together_b, h1, h2, ha, hs]
/-! ### sizes -/
end PL

namespace PL
open PySem PySem.Spec PyProof.Rows L2
open Wd
/-! ### steps -/
inductive Deed
  | assume (w : Wd) | alike (t : Wd) | axi (w : Wd) | every (n : Int) | drop (n : Int) (w : Wd) | clash (n : Int) (w : Wd)
  | one (n : Int) (t : Wd) | more (n : Int) (w : Wd) | apply (n m : Int) | swap (n m : Int) (w : Wd)
def FW (w : Wd) : Prop := Ok w ∧ Fm w ∧ w.lay ≤ 60 ∧ kn w ≤ 300
def TW (t : Wd) : Prop := Ok t ∧ Tm t ∧ t.lay ≤ 60
/-- what is handed in is in order -/
def Deed.Fit : Deed → Prop
  | .assume w => FW w
  | .alike t => TW t
  | .axi w => FW w
  | .every _ => True
  | .drop _ w => FW w
  | .clash _ w => FW w
  | .one _ t => TW t
  | .more _ w => FW w
  | .apply _ _ => True
  | .swap _ _ w => FW w
structure SealOk (g : Nat) (s : Seal) : Prop where
  under : ∀ u ∈ s.under, FW u
  nod : s.under.Nodup
  len : s.under.length ≤ 64
  said : FW s.said
  bas : s.bases.Pairwise (· < ·)
  bin : ∀ b ∈ s.bases, 0 ≤ b ∧ b < g
structure HallOk (S : List Seal) (G : List Wd) : Prop where
  seals : ∀ s ∈ S, SealOk G.length s
  grnd : ∀ w ∈ G, FW w ∧ ((occ w 0).any fun x => decide (0 ≤ x)) = false
  sl : S.length ≤ 2 ^ 20
  gl : G.length ≤ 31
def sealG (S : List Seal) (n : Int) : Option Seal := if 0 ≤ n then S[n.toNat]? else none
def fitE (s : Seal) : Except Str Seal := if fitB s.under s.said = true then .ok s else .error "TooLarge"
def stepP (S : List Seal) (G : List Wd) : Deed → Except Str Seal
  | .assume w => fitE ⟨[w], w, [], []⟩
  | .alike t => fitE ⟨[], .same t t, [], []⟩
  | .axi w => if ((occ w 0).any fun x => decide (0 ≤ x)) = true then .error "Unfit" else fitE ⟨[], w, [(G.length : Int)], []⟩
  | .every n => match sealG S n with
    | none => .error "NoSeal"
    | some s => if (s.under.any fun u => (occ u 0).any fun x => decide (x = 0)) = true then .error "Unfit" else fitE ⟨s.under.map (vmap (shF (-1)) · 0), .all s.said, s.bases, [n]⟩
  | .drop n w => match sealG S n with
    | none => .error "NoSeal"
    | some s => fitE ⟨lessW s.under w, .iff w s.said, s.bases, [n]⟩
  | .clash n w => match sealG S n with
    | none => .error "NoSeal"
    | some s => if s.said.isNo = true then fitE ⟨lessW s.under (.iff w .no), w, s.bases, [n]⟩ else .error "Unfit"
  | .one n t => match sealG S n with
    | none => .error "NoSeal"
    | some s => match s.said with
      | .all b => fitE ⟨s.under, b.vmap (puF t) 0, s.bases, [n]⟩
      | _ => .error "Unfit"
  | .more n w => match sealG S n with
    | none => .error "NoSeal"
    | some s => fitE ⟨joinW s.under [w], s.said, s.bases, [n]⟩
  | .apply n m => match sealG S n, sealG S m with
    | some s, some t => match s.said with
      | .iff a b => if weq a t.said = true then fitE ⟨joinW s.under t.under, b, riseI (s.bases ++ t.bases), [n, m]⟩ else .error "Unfit"
      | _ => .error "Unfit"
    | _, _ => .error "NoSeal"
  | .swap n m w => match sealG S n, sealG S m with
    | some s, some t => match s.said with
      | .same a b => if weq (w.vmap (puF a) 0) t.said = true then fitE ⟨joinW s.under t.under, w.vmap (puF b) 0, riseI (s.bases ++ t.bases), [n, m]⟩ else .error "Unfit"
      | _ => .error "Unfit"
    | _, _ => .error "NoSeal"
def hallG (G : List Wd) : Deed → List Wd
  | .axi w => G ++ [w]
  | _ => G
def outE (S : List Seal) (G G' : List Wd) : Except Str Seal → FOut
  | .ok s => .ret (.int (S.length : Int)) [hallOb (S ++ [s]) G']
  | .error c => .ex c [hallOb S G]
theorem sealG_some {S : List Seal} {n : Int} {s : Seal} (h : sealG S n = some s) : 0 ≤ n ∧ S[n.toNat]? = some s ∧ s ∈ S := by
  unfold sealG at h
  split at h
  · exact ⟨by assumption, h, List.mem_of_getElem? h⟩
  · cases h
theorem sealG_none {S : List Seal} {n : Int} (h : sealG S n = none) : ¬ (0 ≤ n ∧ n < S.length) := by
  rintro ⟨h1, h2⟩
  unfold sealG at h
  rw [if_pos h1, List.getElem?_eq_none_iff] at h
  omega
/-- a seal's parts as they are told -/
structure SD (d : PyData) (s : Seal) : Prop where
  i0 : ixM d (.int 0) = some (.tuple (datas s.under))
  i1 : ixM d (.int 1) = some s.said.data
  i2 : ixM d (.int 2) = some (intsT s.bases)
theorem sd (s : Seal) : SD s.data s := ⟨rfl, rfl, rfl⟩
theorem ntg_if (w : Wd) : neM (.str w.tag) (.str "if") = some (.bool (!w.isIff)) := by cases w <;> kernel_rfl
theorem ok_no : Ok .no := fun x hx => by rw [names] at hx; cases hx
theorem isIff_eq {w : Wd} (h : w.isIff = true) : ∃ a b, w = .iff a b := by cases w <;> first | exact ⟨_, _, rfl⟩ | cases h
theorem neM_deep {w u : Wd} (hw : Ok w) (hu : Ok u) (hl : u.lay ≤ 100) : neM w.data u.data = some (.bool (!weq w u)) := by
  have hd := word_depth u
  unfold neM
  rw [if_pos ⟨word_lay0 w hw, word_lay0 u hu, by omega⟩]
  rfl
theorem Ok.iff {a b : Wd} (ha : Ok a) (hb : Ok b) : Ok (.iff a b) := fun x hx => by
  rw [names] at hx
  rcases List.mem_append.mp hx with h | h
  · exact ha x h
  · exact hb x h
theorem Ok.iff_l {a b : Wd} (h : Ok (.iff a b)) : Ok a ∧ Ok b := ⟨fun x hx => h x (by rw [names]; exact List.mem_append.mpr (.inl hx)), fun x hx => h x (by rw [names]; exact List.mem_append.mpr (.inr hx))⟩
theorem Ok.same_l {a b : Wd} (h : Ok (.same a b)) : Ok a ∧ Ok b := ⟨fun x hx => h x (by rw [names]; exact List.mem_append.mpr (.inl hx)), fun x hx => h x (by rw [names]; exact List.mem_append.mpr (.inr hx))⟩
theorem ints_row (xs : List Int) : RowIs (intsT xs) (xs.map .int) := ⟨rfl⟩
theorem rise_len {n : Nat} : ∀ {xs : List Int}, xs.Pairwise (· < ·) → ∀ {lo : Int}, (∀ x ∈ xs, lo ≤ x ∧ x < n) → lo ≤ n → (xs.length : Int) ≤ n - lo
  | [], _, lo, _, h => by simp; omega
  | x :: xs, hp, lo, hb, h => by
    rw [List.pairwise_cons] at hp
    have h0 := hb x (.head _)
    have := rise_len hp.2 (lo := x + 1) (fun y hy => ⟨by have := hp.1 y hy; omega, (hb y (.tail _ hy)).2⟩) (by omega)
    rw [List.length_cons]
    omega
theorem SealOk.blen {g : Nat} {s : Seal} (h : SealOk g s) : s.bases.length ≤ g := by
  have := rise_len h.bas (lo := 0) h.bin (by omega)
  omega
/-! what the methods are made of -/
theorem look_ok {ρ : Rho} {i k : Nat} {S : List Seal} {G : List Wd} {n : Int} {s : Seal} (h0 : ρ[0]? = some (.o (hallOb S G))) (hk : ρ[k]? = some (.d (.int n))) (hs : sealG S n = some s) (ho : isO ρ[i]? = false) :
    sAsgX i (xMeth "Hall" "seal_at" (.r 0) 0 Hall_seal_at_m (xCons (xE (mV k)) xNil)) ρ = .nx (ρ.set i (.d s.data)) := by
  obtain ⟨h1, h2, _⟩ := sealG_some hs
  have hm : xCons (xE (mV k)) xNil ρ = .vals ([PyData.int n].map .d) ρ := by unfold xCons xE xNil mV; rw [hk]; rfl
  refine asgX_ok ?_ ho
  rw [meth_r (.inl h0) (by decide +kernel) (by decide +kernel) hm]
  show (match Hall_seal_at_m [.r (hallOb S G), .d (.int n)] with | .ret d _ => XOut.val d ρ | .ex c _ => .ex c ρ | .stuck => .stuck) = _
  rw [seal_at_ok h1 h2]
theorem look_bad {ρ : Rho} {i k : Nat} {S : List Seal} {G : List Wd} {n : Int} (h0 : ρ[0]? = some (.o (hallOb S G))) (hk : ρ[k]? = some (.d (.int n))) (hs : sealG S n = none) :
    sAsgX i (xMeth "Hall" "seal_at" (.r 0) 0 Hall_seal_at_m (xCons (xE (mV k)) xNil)) ρ = .ex "NoSeal" ρ := by
  have hm : xCons (xE (mV k)) xNil ρ = .vals ([PyData.int n].map .d) ρ := by unfold xCons xE xNil mV; rw [hk]; rfl
  refine asgX_ex ?_
  rw [meth_r (.inl h0) (by decide +kernel) (by decide +kernel) hm]
  show (match Hall_seal_at_m [.r (hallOb S G), .d (.int n)] with | .ret d _ => XOut.val d ρ | .ex c _ => .ex c ρ | .stuck => .stuck) = _
  rw [seal_at_no (sealG_none hs)]
theorem sealed_x {ρ : Rho} {ms : MXs} {S : List Seal} {G : List Wd} {U Bs Gv : PyData} {u : List Wd} {w : Wd} {bs gv : List Int} (h0 : ρ[0]? = some (.o (hallOb S G))) (hm : ms ρ = .vals ([U, w.data, Bs, Gv].map .d) ρ)
    (hU : RowIs U (datas u)) (hB : RowIs Bs (bs.map .int)) (hG : RowIs Gv (gv.map .int)) (hw : w.lay ≤ 140) (hS : S.length ≤ 2 ^ 20) :
    xMeth "Hall" "sealed" (.o 0) 0 Hall_sealed_m ms ρ = match fitE ⟨u, w, bs, gv⟩ with
      | .ok s => .val (.int (S.length : Int)) (ρ.set 0 (.o (hallOb (S ++ [s]) G)))
      | .error c => .ex c (ρ.set 0 (.o (hallOb S G))) := by
  rw [meth_o h0 (by decide +kernel) (by decide +kernel) hm]
  show xFin _ ρ (Hall_sealed_m [.o (hallOb S G), .d U, .d w.data, .d Bs, .d Gv]) = _
  rw [sealed_fn hU hB hG hw hS]
  unfold fitE
  split
  · exact xFin_ret
  · exact xFin_ex
/-- a method's last statement -/
theorem sealed_end {ρ : Rho} {ms : MXs} {S : List Seal} {G : List Wd} {U Bs Gv : PyData} {u : List Wd} {w : Wd} {bs gv : List Int} {as : List PyData} {rest : Rho} (h0 : ρ = .o (hallOb S G) :: rest) (hm : ms ρ = .vals ([U, w.data, Bs, Gv].map .d) ρ)
    (hU : RowIs U (datas u)) (hB : RowIs Bs (bs.map .int)) (hG : RowIs Gv (gv.map .int)) (hw : w.lay ≤ 140) (hS : S.length ≤ 2 ^ 20) (ha : outs (as.map .d) rest = []) :
    Ends (sRetX (xMeth "Hall" "sealed" (.o 0) 0 Hall_sealed_m ms)) ρ fun o => fin (.o (hallOb S G) :: as.map .d) o = outE S G G (fitE ⟨u, w, bs, gv⟩) := by
  have e := sealed_x (by rw [h0]; rfl) hm hU hB hG hw hS
  generalize fitE ⟨u, w, bs, gv⟩ = r at e
  subst h0
  cases r with
  | ok s => exact .last (retX_ok e) (by simp only [fin, List.set_cons_zero, outs, ha, outE])
  | error c => exact .last (retX_ex e) (by simp only [fin, List.set_cons_zero, outs, ha, outE])
theorem outs_d : ∀ (as : List PyData) (ρ : Rho), outs (as.map .d) ρ = []
  | [], ρ => by cases ρ <;> rfl
  | a :: as, [] => rfl
  | a :: as, s :: ρ => outs_d as ρ
/-- a method's end by a refusal -/
theorem bad_end {S : List Seal} {G G' : List Wd} {as : List PyData} {rest : Rho} {c : Str} : fin (.o (hallOb S G) :: as.map .d) (.ex c (.o (hallOb S G) :: rest)) = outE S G G' (.error c) := by
  simp only [fin, outs, outs_d, outE]
theorem Ends.bad {a b : MS} {ρ ρ' : Rho} {c : Str} {Q : Out → Prop} (h : a ρ = .ex c ρ') (k : Q (.ex c ρ')) : Ends (sSeq a b) ρ Q := .seq (.last h (.inr ⟨fun _ z => (by cases z), k⟩))
/-! ### the methods -/
section
variable {S : List Seal} {G : List Wd} (hh : HallOk S G)
include hh
theorem assume_fn {w : Wd} (hw : FW w) : Hall_assume_m [.o (hallOb S G), .d w.data] = outE S G G (stepP S G (.assume w)) := by
  rw [Hall_assume_m]
  refine fn_res rfl ?_
  exact sealed_end (as := [w.data]) (u := [w]) (bs := []) (gv := []) rfl (by simp only [runF, sSeq, sIf, sRet, sAsg, sNew, sApp, sSkip_ap, sFor, sForZ, mCall, mCons, mNil, mV, mVA, mC, mBin, mUn, mTest, mAndT, mOrT, mNotT, mAnd, mOr, mNot, mBl, bl?, mIf, mTup, mLst, mSl, mSome, mNo, mComp, mIt, mItB, mR1, mR2, mR1c, mZ, mZB, mYes, mkArgs, outs, itemsOf, isO, listM, tupleM, lenM, intM, subM_i, ltM_i, leM_i, gtM_i, geM_i, addM, Option.bind_some, Option.bind_none, Option.map_some, Option.map_none, List.length_cons, List.length_nil, List.getElem?_cons_zero, List.getElem?_cons_succ, List.set_cons_zero, List.set_cons_succ, List.cons_append, List.nil_append, List.append_nil, List.replicate, if_true, if_false, Nat.reduceAdd, Nat.reduceSub, Nat.reduceLeDiff, Nat.reduceEqDiff, reduceIte, Bool.false_eq_true, reduceCtorEq, Bool.not_true, Bool.not_false, decide_true, decide_false, id, xE, xCall, xNil, xCons, xSlot, xTup, xUn, xBin, xOut, xFin, slsOf, slOf, dsOf, putB, xT, xTest, xAndT, xOrT, xNotT, sAsgX, sRetX, sDoX, sIfX, sAppX, sExc, sTry, sHds, noEx, sTryAs, wipeO, mIsE, sFz, sPop, negM, mChain, List.nodup_nil, List.all_nil, Bool.and_true, Bool.true_and]; rfl) (row_list [w]) ⟨rfl⟩ ⟨rfl⟩ (by have := hw.2.2.1; omega) hh.sl (outs_d _ _)
theorem drop_fn {n : Int} {w : Wd} (hw : FW w) : Hall_drop_m [.o (hallOb S G), .d (.int n), .d w.data] = outE S G G (stepP S G (.drop n w)) := by
  rw [Hall_drop_m]
  refine fn_res rfl ?_
  cases hs : sealG S n with
  | none =>
    refine Ends.bad (look_bad rfl rfl hs) ?_
    rw [stepP, hs]
    exact bad_end (as := [.int n, w.data])
  | some s =>
    have ok := hh.seals s (sealG_some hs).2.2
    have D := sd s
    have hwo := without_fn (row_tup s.under) (fun u hu => ⟨(ok.under u hu).1, by have := (ok.under u hu).2.2.1; omega⟩) hw.1
    refine Ends.nx (look_ok rfl rfl hs rfl) ?_
    rw [stepP, hs]
    exact sealed_end (as := [.int n, w.data]) (u := lessW s.under w) (w := .iff w s.said) (bs := s.bases) (gv := [n]) rfl (by simp only [runF, sSeq, sIf, sRet, sAsg, sNew, sApp, sSkip_ap, sFor, sForZ, mCall, mCons, mNil, mV, mVA, mC, mBin, mUn, mTest, mAndT, mOrT, mNotT, mAnd, mOr, mNot, mBl, bl?, mIf, mTup, mLst, mSl, mSome, mNo, mComp, mIt, mItB, mR1, mR2, mR1c, mZ, mZB, mYes, mkArgs, outs, itemsOf, isO, listM, tupleM, lenM, intM, subM_i, ltM_i, leM_i, gtM_i, geM_i, addM, Option.bind_some, Option.bind_none, Option.map_some, Option.map_none, List.length_cons, List.length_nil, List.getElem?_cons_zero, List.getElem?_cons_succ, List.set_cons_zero, List.set_cons_succ, List.cons_append, List.nil_append, List.append_nil, List.replicate, if_true, if_false, Nat.reduceAdd, Nat.reduceSub, Nat.reduceLeDiff, Nat.reduceEqDiff, reduceIte, Bool.false_eq_true, reduceCtorEq, Bool.not_true, Bool.not_false, decide_true, decide_false, id, xE, xCall, xNil, xCons, xSlot, xTup, xUn, xBin, xOut, xFin, slsOf, slOf, dsOf, putB, xT, xTest, xAndT, xOrT, xNotT, sAsgX, sRetX, sDoX, sIfX, sAppX, sExc, sTry, sHds, noEx, sTryAs, wipeO, mIsE, sFz, sPop, negM, mChain, List.nodup_nil, List.all_nil, Bool.and_true, Bool.true_and, D.i0, D.i1, D.i2, hwo]; rfl) (row_list _) (ints_row _) ⟨rfl⟩ (by have := hw.2.2.1; have := ok.said.2.2.1; simp [lay]; omega) hh.sl (outs_d _ _)
theorem more_fn {n : Int} {w : Wd} (hw : FW w) : Hall_more_m [.o (hallOb S G), .d (.int n), .d w.data] = outE S G G (stepP S G (.more n w)) := by
  rw [Hall_more_m]
  refine fn_res rfl ?_
  cases hs : sealG S n with
  | none =>
    refine Ends.bad (look_bad rfl rfl hs) ?_
    rw [stepP, hs]
    exact bad_end (as := [.int n, w.data])
  | some s =>
    have ok := hh.seals s (sealG_some hs).2.2
    have D := sd s
    have hj := joined_fn (row_tup s.under) (row_list [w]) (fun u hu => (ok.under u hu).1) (fun u hu => by rw [List.mem_singleton.mp hu]; exact ⟨hw.1, by have := hw.2.2.1; omega⟩) (by have := ok.len; simp; omega)
    rw [show datas [w] = [w.data] from rfl] at hj
    refine Ends.nx (look_ok rfl rfl hs rfl) ?_
    rw [stepP, hs]
    exact sealed_end (as := [.int n, w.data]) (u := joinW s.under [w]) (w := s.said) (bs := s.bases) (gv := [n]) rfl (by simp only [runF, sSeq, sIf, sRet, sAsg, sNew, sApp, sSkip_ap, sFor, sForZ, mCall, mCons, mNil, mV, mVA, mC, mBin, mUn, mTest, mAndT, mOrT, mNotT, mAnd, mOr, mNot, mBl, bl?, mIf, mTup, mLst, mSl, mSome, mNo, mComp, mIt, mItB, mR1, mR2, mR1c, mZ, mZB, mYes, mkArgs, outs, itemsOf, isO, listM, tupleM, lenM, intM, subM_i, ltM_i, leM_i, gtM_i, geM_i, addM, Option.bind_some, Option.bind_none, Option.map_some, Option.map_none, List.length_cons, List.length_nil, List.getElem?_cons_zero, List.getElem?_cons_succ, List.set_cons_zero, List.set_cons_succ, List.cons_append, List.nil_append, List.append_nil, List.replicate, if_true, if_false, Nat.reduceAdd, Nat.reduceSub, Nat.reduceLeDiff, Nat.reduceEqDiff, reduceIte, Bool.false_eq_true, reduceCtorEq, Bool.not_true, Bool.not_false, decide_true, decide_false, id, xE, xCall, xNil, xCons, xSlot, xTup, xUn, xBin, xOut, xFin, slsOf, slOf, dsOf, putB, xT, xTest, xAndT, xOrT, xNotT, sAsgX, sRetX, sDoX, sIfX, sAppX, sExc, sTry, sHds, noEx, sTryAs, wipeO, mIsE, sFz, sPop, negM, mChain, List.nodup_nil, List.all_nil, Bool.and_true, Bool.true_and, D.i0, D.i1, D.i2, hj]; rfl) (row_list _) (ints_row _) ⟨rfl⟩ (by have := ok.said.2.2.1; omega) hh.sl (outs_d _ _)
theorem apply_fn {n m : Int} : Hall_apply_m [.o (hallOb S G), .d (.int n), .d (.int m)] = outE S G G (stepP S G (.apply n m)) := by
  rw [Hall_apply_m]
  refine fn_res rfl ?_
  cases hs : sealG S n with
  | none =>
    refine Ends.bad (look_bad rfl rfl hs) ?_
    rw [stepP, hs]
    exact bad_end (as := [.int n, .int m])
  | some s =>
    have ok := hh.seals s (sealG_some hs).2.2
    have D := sd s
    refine Ends.nx (look_ok rfl rfl hs rfl) ?_
    cases ht : sealG S m with
    | none =>
      refine Ends.bad (look_bad (k := 2) rfl rfl ht) ?_
      rw [stepP, hs, ht]
      exact bad_end (as := [.int n, .int m])
    | some t =>
      have okt := hh.seals t (sealG_some ht).2.2
      have Dt := sd t
      refine Ends.nx (look_ok (k := 2) rfl rfl ht rfl) ?_
      rw [stepP, hs, ht]
      dsimp only
      refine Ends.nx (ρ' := [.o (hallOb S G), .d (.int n), .d (.int m), .d s.data, .d t.data, .d s.said.data, .nil]) (by simp only [runF, sSeq, sIf, sRet, sAsg, sNew, sApp, sSkip_ap, sFor, sForZ, mCall, mCons, mNil, mV, mVA, mC, mBin, mUn, mTest, mAndT, mOrT, mNotT, mAnd, mOr, mNot, mBl, bl?, mIf, mTup, mLst, mSl, mSome, mNo, mComp, mIt, mItB, mR1, mR2, mR1c, mZ, mZB, mYes, mkArgs, outs, itemsOf, isO, listM, tupleM, lenM, intM, subM_i, ltM_i, leM_i, gtM_i, geM_i, addM, Option.bind_some, Option.bind_none, Option.map_some, Option.map_none, List.length_cons, List.length_nil, List.getElem?_cons_zero, List.getElem?_cons_succ, List.set_cons_zero, List.set_cons_succ, List.cons_append, List.nil_append, List.append_nil, List.replicate, if_true, if_false, Nat.reduceAdd, Nat.reduceSub, Nat.reduceLeDiff, Nat.reduceEqDiff, reduceIte, Bool.false_eq_true, reduceCtorEq, Bool.not_true, Bool.not_false, decide_true, decide_false, id, xE, xCall, xNil, xCons, xSlot, xTup, xUn, xBin, xOut, xFin, slsOf, slOf, dsOf, putB, xT, xTest, xAndT, xOrT, xNotT, sAsgX, sRetX, sDoX, sIfX, sAppX, sExc, sTry, sHds, noEx, sTryAs, wipeO, mIsE, sFz, sPop, negM, mChain, List.nodup_nil, List.all_nil, Bool.and_true, Bool.true_and, D.i1]) ?_
      have hne := ntg_if s.said
      cases hn : s.said.isIff with
      | false =>
        rw [hn] at hne
        refine Ends.bad (ρ' := [.o (hallOb S G), .d (.int n), .d (.int m), .d s.data, .d t.data, .d s.said.data, .nil]) (by simp only [runF, sSeq, sIf, sRet, sAsg, sNew, sApp, sSkip_ap, sFor, sForZ, mCall, mCons, mNil, mV, mVA, mC, mBin, mUn, mTest, mAndT, mOrT, mNotT, mAnd, mOr, mNot, mBl, bl?, mIf, mTup, mLst, mSl, mSome, mNo, mComp, mIt, mItB, mR1, mR2, mR1c, mZ, mZB, mYes, mkArgs, outs, itemsOf, isO, listM, tupleM, lenM, intM, subM_i, ltM_i, leM_i, gtM_i, geM_i, addM, Option.bind_some, Option.bind_none, Option.map_some, Option.map_none, List.length_cons, List.length_nil, List.getElem?_cons_zero, List.getElem?_cons_succ, List.set_cons_zero, List.set_cons_succ, List.cons_append, List.nil_append, List.append_nil, List.replicate, if_true, if_false, Nat.reduceAdd, Nat.reduceSub, Nat.reduceLeDiff, Nat.reduceEqDiff, reduceIte, Bool.false_eq_true, reduceCtorEq, Bool.not_true, Bool.not_false, decide_true, decide_false, id, xE, xCall, xNil, xCons, xSlot, xTup, xUn, xBin, xOut, xFin, slsOf, slOf, dsOf, putB, xT, xTest, xAndT, xOrT, xNotT, sAsgX, sRetX, sDoX, sIfX, sAppX, sExc, sTry, sHds, noEx, sTryAs, wipeO, mIsE, sFz, sPop, negM, mChain, List.nodup_nil, List.all_nil, Bool.and_true, Bool.true_and, ix0, hne]; rfl) ?_
        have : (match s.said with | .iff a b => if weq a t.said = true then fitE ⟨joinW s.under t.under, b, riseI (s.bases ++ t.bases), [n, m]⟩ else .error "Unfit" | _ => .error "Unfit") = .error "Unfit" := by
          generalize s.said = w at hn
          cases w <;> first | rfl | cases hn
        rw [this]
        exact bad_end (as := [.int n, .int m])
      | true =>
        rw [hn] at hne
        obtain ⟨a, b, hb⟩ := isIff_eq hn
        have hl := ok.said.2.2.1
        have hok := ok.said.1
        rw [hb] at hl hok
        rw [lay] at hl
        have e1 : ixM (Wd.iff a b).data (.int 1) = some a.data := ix1_iff a b
        have e2 : ixM (Wd.iff a b).data (.int 2) = some b.data := ix2_iff a b
        have hw := neM_deep (w := a) (u := t.said) hok.iff_l.1 okt.said.1 (by have := okt.said.2.2.1; omega)
        have hx : ixM s.said.data (.int 0) = some (.str s.said.tag) := ix0 _
        rw [hb] at hx hne ⊢
        cases he : weq a t.said with
        | false =>
          rw [he] at hw
          dsimp only
          rw [he, if_neg (by decide)]
          refine Ends.bad (ρ' := [.o (hallOb S G), .d (.int n), .d (.int m), .d s.data, .d t.data, .d (Wd.iff a b).data, .nil]) (by simp only [runF, sSeq, sIf, sRet, sAsg, sNew, sApp, sSkip_ap, sFor, sForZ, mCall, mCons, mNil, mV, mVA, mC, mBin, mUn, mTest, mAndT, mOrT, mNotT, mAnd, mOr, mNot, mBl, bl?, mIf, mTup, mLst, mSl, mSome, mNo, mComp, mIt, mItB, mR1, mR2, mR1c, mZ, mZB, mYes, mkArgs, outs, itemsOf, isO, listM, tupleM, lenM, intM, subM_i, ltM_i, leM_i, gtM_i, geM_i, addM, Option.bind_some, Option.bind_none, Option.map_some, Option.map_none, List.length_cons, List.length_nil, List.getElem?_cons_zero, List.getElem?_cons_succ, List.set_cons_zero, List.set_cons_succ, List.cons_append, List.nil_append, List.append_nil, List.replicate, if_true, if_false, Nat.reduceAdd, Nat.reduceSub, Nat.reduceLeDiff, Nat.reduceEqDiff, reduceIte, Bool.false_eq_true, reduceCtorEq, Bool.not_true, Bool.not_false, decide_true, decide_false, id, xE, xCall, xNil, xCons, xSlot, xTup, xUn, xBin, xOut, xFin, slsOf, slOf, dsOf, putB, xT, xTest, xAndT, xOrT, xNotT, sAsgX, sRetX, sDoX, sIfX, sAppX, sExc, sTry, sHds, noEx, sTryAs, wipeO, mIsE, sFz, sPop, negM, mChain, List.nodup_nil, List.all_nil, Bool.and_true, Bool.true_and, hx, hne, e1, Dt.i1, hw]; rfl) ?_
          exact bad_end (as := [.int n, .int m])
        | true =>
          rw [he] at hw
          dsimp only
          rw [he, if_pos rfl]
          have hj := joined_fn (row_tup s.under) (row_tup t.under) (fun u hu => (ok.under u hu).1) (fun u hu => ⟨(okt.under u hu).1, by have := (okt.under u hu).2.2.1; omega⟩) (by have := ok.len; have := okt.len; omega)
          have htg := together_fn (ints_row s.bases) (ints_row t.bases) (by have := ok.blen; have := okt.blen; have := hh.gl; omega)
          refine Ends.nx (ρ' := [.o (hallOb S G), .d (.int n), .d (.int m), .d s.data, .d t.data, .d (Wd.iff a b).data, .nil]) (by simp only [runF, sSeq, sIf, sRet, sAsg, sNew, sApp, sSkip_ap, sFor, sForZ, mCall, mCons, mNil, mV, mVA, mC, mBin, mUn, mTest, mAndT, mOrT, mNotT, mAnd, mOr, mNot, mBl, bl?, mIf, mTup, mLst, mSl, mSome, mNo, mComp, mIt, mItB, mR1, mR2, mR1c, mZ, mZB, mYes, mkArgs, outs, itemsOf, isO, listM, tupleM, lenM, intM, subM_i, ltM_i, leM_i, gtM_i, geM_i, addM, Option.bind_some, Option.bind_none, Option.map_some, Option.map_none, List.length_cons, List.length_nil, List.getElem?_cons_zero, List.getElem?_cons_succ, List.set_cons_zero, List.set_cons_succ, List.cons_append, List.nil_append, List.append_nil, List.replicate, if_true, if_false, Nat.reduceAdd, Nat.reduceSub, Nat.reduceLeDiff, Nat.reduceEqDiff, reduceIte, Bool.false_eq_true, reduceCtorEq, Bool.not_true, Bool.not_false, decide_true, decide_false, id, xE, xCall, xNil, xCons, xSlot, xTup, xUn, xBin, xOut, xFin, slsOf, slOf, dsOf, putB, xT, xTest, xAndT, xOrT, xNotT, sAsgX, sRetX, sDoX, sIfX, sAppX, sExc, sTry, sHds, noEx, sTryAs, wipeO, mIsE, sFz, sPop, negM, mChain, List.nodup_nil, List.all_nil, Bool.and_true, Bool.true_and, hx, hne, e1, Dt.i1, hw]) ?_
          refine Ends.nx (ρ' := [.o (hallOb S G), .d (.int n), .d (.int m), .d s.data, .d t.data, .d (Wd.iff a b).data, .d (intsD (riseI (s.bases ++ t.bases)))]) (by simp only [runF, sSeq, sIf, sRet, sAsg, sNew, sApp, sSkip_ap, sFor, sForZ, mCall, mCons, mNil, mV, mVA, mC, mBin, mUn, mTest, mAndT, mOrT, mNotT, mAnd, mOr, mNot, mBl, bl?, mIf, mTup, mLst, mSl, mSome, mNo, mComp, mIt, mItB, mR1, mR2, mR1c, mZ, mZB, mYes, mkArgs, outs, itemsOf, isO, listM, tupleM, lenM, intM, subM_i, ltM_i, leM_i, gtM_i, geM_i, addM, Option.bind_some, Option.bind_none, Option.map_some, Option.map_none, List.length_cons, List.length_nil, List.getElem?_cons_zero, List.getElem?_cons_succ, List.set_cons_zero, List.set_cons_succ, List.cons_append, List.nil_append, List.append_nil, List.replicate, if_true, if_false, Nat.reduceAdd, Nat.reduceSub, Nat.reduceLeDiff, Nat.reduceEqDiff, reduceIte, Bool.false_eq_true, reduceCtorEq, Bool.not_true, Bool.not_false, decide_true, decide_false, id, xE, xCall, xNil, xCons, xSlot, xTup, xUn, xBin, xOut, xFin, slsOf, slOf, dsOf, putB, xT, xTest, xAndT, xOrT, xNotT, sAsgX, sRetX, sDoX, sIfX, sAppX, sExc, sTry, sHds, noEx, sTryAs, wipeO, mIsE, sFz, sPop, negM, mChain, List.nodup_nil, List.all_nil, Bool.and_true, Bool.true_and, D.i2, Dt.i2, htg]) ?_
          exact sealed_end (as := [.int n, .int m]) (u := joinW s.under t.under) (w := b) (bs := riseI (s.bases ++ t.bases)) (gv := [n, m]) rfl (by simp only [runF, sSeq, sIf, sRet, sAsg, sNew, sApp, sSkip_ap, sFor, sForZ, mCall, mCons, mNil, mV, mVA, mC, mBin, mUn, mTest, mAndT, mOrT, mNotT, mAnd, mOr, mNot, mBl, bl?, mIf, mTup, mLst, mSl, mSome, mNo, mComp, mIt, mItB, mR1, mR2, mR1c, mZ, mZB, mYes, mkArgs, outs, itemsOf, isO, listM, tupleM, lenM, intM, subM_i, ltM_i, leM_i, gtM_i, geM_i, addM, Option.bind_some, Option.bind_none, Option.map_some, Option.map_none, List.length_cons, List.length_nil, List.getElem?_cons_zero, List.getElem?_cons_succ, List.set_cons_zero, List.set_cons_succ, List.cons_append, List.nil_append, List.append_nil, List.replicate, if_true, if_false, Nat.reduceAdd, Nat.reduceSub, Nat.reduceLeDiff, Nat.reduceEqDiff, reduceIte, Bool.false_eq_true, reduceCtorEq, Bool.not_true, Bool.not_false, decide_true, decide_false, id, xE, xCall, xNil, xCons, xSlot, xTup, xUn, xBin, xOut, xFin, slsOf, slOf, dsOf, putB, xT, xTest, xAndT, xOrT, xNotT, sAsgX, sRetX, sDoX, sIfX, sAppX, sExc, sTry, sHds, noEx, sTryAs, wipeO, mIsE, sFz, sPop, negM, mChain, List.nodup_nil, List.all_nil, Bool.and_true, Bool.true_and, D.i0, Dt.i0, e2, hj]; rfl) (row_list _) ⟨rfl⟩ ⟨rfl⟩ (by omega) hh.sl (outs_d _ _)
theorem axiom_fn {w : Wd} (hw : FW w) : Hall_axiom_m [.o (hallOb S G), .d w.data] = outE S G (hallG G (.axi w)) (stepP S G (.axi w)) := by
  rw [Hall_axiom_m]
  refine fn_res rfl ?_
  have hab := all_bound_fn 70 w 0 (by have := hw.2.2.1; omega)
  rw [stepP]
  cases hb : ((occ w 0).any fun x => decide (0 ≤ x)) with
  | true =>
    rw [hb] at hab
    exact Ends.bad (ρ' := [.o (hallOb S G), .d w.data, .nil]) (by simp only [runF, sSeq, sIf, sRet, sAsg, sNew, sApp, sSkip_ap, sFor, sForZ, mCall, mCons, mNil, mV, mVA, mC, mBin, mUn, mTest, mAndT, mOrT, mNotT, mAnd, mOr, mNot, mBl, bl?, mIf, mTup, mLst, mSl, mSome, mNo, mComp, mIt, mItB, mR1, mR2, mR1c, mZ, mZB, mYes, mkArgs, outs, itemsOf, isO, listM, tupleM, lenM, intM, subM_i, ltM_i, leM_i, gtM_i, geM_i, addM, Option.bind_some, Option.bind_none, Option.map_some, Option.map_none, List.length_cons, List.length_nil, List.getElem?_cons_zero, List.getElem?_cons_succ, List.set_cons_zero, List.set_cons_succ, List.cons_append, List.nil_append, List.append_nil, List.replicate, if_true, if_false, Nat.reduceAdd, Nat.reduceSub, Nat.reduceLeDiff, Nat.reduceEqDiff, reduceIte, Bool.false_eq_true, reduceCtorEq, Bool.not_true, Bool.not_false, decide_true, decide_false, id, xE, xCall, xNil, xCons, xSlot, xTup, xUn, xBin, xOut, xFin, slsOf, slOf, dsOf, putB, xT, xTest, xAndT, xOrT, xNotT, sAsgX, sRetX, sDoX, sIfX, sAppX, sExc, sTry, sHds, noEx, sTryAs, wipeO, mIsE, sFz, sPop, negM, mChain, List.nodup_nil, List.all_nil, Bool.and_true, Bool.true_and, hab]) (bad_end (as := [w.data]))
  | false =>
    rw [hb] at hab
    refine Ends.nx (ρ' := [.o (hallOb S G), .d w.data, .nil]) (by simp only [runF, sSeq, sIf, sRet, sAsg, sNew, sApp, sSkip_ap, sFor, sForZ, mCall, mCons, mNil, mV, mVA, mC, mBin, mUn, mTest, mAndT, mOrT, mNotT, mAnd, mOr, mNot, mBl, bl?, mIf, mTup, mLst, mSl, mSome, mNo, mComp, mIt, mItB, mR1, mR2, mR1c, mZ, mZB, mYes, mkArgs, outs, itemsOf, isO, listM, tupleM, lenM, intM, subM_i, ltM_i, leM_i, gtM_i, geM_i, addM, Option.bind_some, Option.bind_none, Option.map_some, Option.map_none, List.length_cons, List.length_nil, List.getElem?_cons_zero, List.getElem?_cons_succ, List.set_cons_zero, List.set_cons_succ, List.cons_append, List.nil_append, List.append_nil, List.replicate, if_true, if_false, Nat.reduceAdd, Nat.reduceSub, Nat.reduceLeDiff, Nat.reduceEqDiff, reduceIte, Bool.false_eq_true, reduceCtorEq, Bool.not_true, Bool.not_false, decide_true, decide_false, id, xE, xCall, xNil, xCons, xSlot, xTup, xUn, xBin, xOut, xFin, slsOf, slOf, dsOf, putB, xT, xTest, xAndT, xOrT, xNotT, sAsgX, sRetX, sDoX, sIfX, sAppX, sExc, sTry, sHds, noEx, sTryAs, wipeO, mIsE, sFz, sPop, negM, mChain, List.nodup_nil, List.all_nil, Bool.and_true, Bool.true_and, hab]) ?_
    have ha := attr_ground (ρ := [.o (hallOb S G), .d w.data, .nil]) (i := 0) (S := S) (G := G) (.inl rfl)
    have hlen : lenM (.list (datas G)) = some (.int (G.length : Int)) := by simp only [lenM, datas_len]
    have e := sealed_x (S := S) (G := G) (ρ := [.o (hallOb S G), .d w.data, .nil]) (ms := xCons (xE (mLst mNil)) (xCons (xE (mV 1)) (xCons (xE (mLst (mCons (mUn lenM (mAttrL 0 "Hall" "ground")) mNil))) (xCons (xE (mLst mNil)) xNil)))) (U := .list []) (Bs := .list [.int (G.length : Int)]) (Gv := .list []) (u := []) (w := w) (bs := [(G.length : Int)]) (gv := []) rfl (by simp only [runF, sSeq, sIf, sRet, sAsg, sNew, sApp, sSkip_ap, sFor, sForZ, mCall, mCons, mNil, mV, mVA, mC, mBin, mUn, mTest, mAndT, mOrT, mNotT, mAnd, mOr, mNot, mBl, bl?, mIf, mTup, mLst, mSl, mSome, mNo, mComp, mIt, mItB, mR1, mR2, mR1c, mZ, mZB, mYes, mkArgs, outs, itemsOf, isO, listM, tupleM, intM, subM_i, ltM_i, leM_i, gtM_i, geM_i, addM, Option.bind_some, Option.bind_none, Option.map_some, Option.map_none, List.length_cons, List.length_nil, List.getElem?_cons_zero, List.getElem?_cons_succ, List.set_cons_zero, List.set_cons_succ, List.cons_append, List.nil_append, List.append_nil, List.replicate, if_true, if_false, Nat.reduceAdd, Nat.reduceSub, Nat.reduceLeDiff, Nat.reduceEqDiff, reduceIte, Bool.false_eq_true, reduceCtorEq, Bool.not_true, Bool.not_false, decide_true, decide_false, id, xE, xCall, xNil, xCons, xSlot, xTup, xUn, xBin, xOut, xFin, slsOf, slOf, dsOf, putB, xT, xTest, xAndT, xOrT, xNotT, sAsgX, sRetX, sDoX, sIfX, sAppX, sExc, sTry, sHds, noEx, sTryAs, wipeO, mIsE, sFz, sPop, negM, mChain, List.nodup_nil, List.all_nil, Bool.and_true, Bool.true_and, ha, hlen]; rfl) (row_list []) ⟨rfl⟩ ⟨rfl⟩ (by have := hw.2.2.1; omega) hh.sl
    rw [if_neg (by decide)]
    by_cases hf : fitB [] w = true
    · have ef : fitE ⟨[], w, [(G.length : Int)], []⟩ = .ok ⟨[], w, [(G.length : Int)], []⟩ := if_pos hf
      rw [ef] at e ⊢
      dsimp only at e
      refine Ends.nx (asgX_ok e rfl) ?_
      have hz : (datas G).length < sizeLine := by rw [datas_len, sizeLine_eq]; have := hh.gl; omega
      refine Ends.nx (ρ' := [.o (hallOb (S ++ [⟨[], w, [(G.length : Int)], []⟩]) (G ++ [w])), .d w.data, .d (.int (S.length : Int))]) ?_ ?_
      · unfold sAppF
        simp only [List.set_cons_zero, List.set_cons_succ, List.getElem?_cons_zero, hallOb, if_true, look_ground, mV, List.getElem?_cons_succ]
        rw [if_pos hz, put_ground]
        simp only [List.set_cons_zero, hallFs, datas_app]
        rfl
      · exact .last (by simp only [runF, sSeq, sIf, sRet, sAsg, sNew, sApp, sSkip_ap, sFor, sForZ, mCall, mCons, mNil, mV, mVA, mC, mBin, mUn, mTest, mAndT, mOrT, mNotT, mAnd, mOr, mNot, mBl, bl?, mIf, mTup, mLst, mSl, mSome, mNo, mComp, mIt, mItB, mR1, mR2, mR1c, mZ, mZB, mYes, mkArgs, outs, itemsOf, isO, listM, tupleM, lenM, intM, subM_i, ltM_i, leM_i, gtM_i, geM_i, addM, Option.bind_some, Option.bind_none, Option.map_some, Option.map_none, List.length_cons, List.length_nil, List.getElem?_cons_zero, List.getElem?_cons_succ, List.set_cons_zero, List.set_cons_succ, List.cons_append, List.nil_append, List.append_nil, List.replicate, if_true, if_false, Nat.reduceAdd, Nat.reduceSub, Nat.reduceLeDiff, Nat.reduceEqDiff, reduceIte, Bool.false_eq_true, reduceCtorEq, Bool.not_true, Bool.not_false, decide_true, decide_false, id]; rfl) rfl
    · have ef : fitE ⟨[], w, [(G.length : Int)], []⟩ = .error "TooLarge" := if_neg hf
      rw [ef] at e ⊢
      dsimp only at e
      exact Ends.bad (asgX_ex e) (bad_end (as := [w.data]))
end
end PL

namespace PL
open PySem PySem.Spec PyProof.Rows L2
open Wd
/-! ### what is made is in order -/
theorem low_tm {w : Wd} (h : Tm w) : ∀ {d : Int}, 0 ≤ d → ((occ w d).any fun x => decide (x = 0)) = false → Tm (w.vmap (shF (-1)) d) := by
  induction h with
  | var h => 
    intro d hd ho
    rw [Wd.vmap, shF]
    split
    · exact .var h
    · rename_i hn
      simp [occ] at ho
      exact .var (by omega)
  | fn _ ih =>
    intro d hd ho
    rw [Wd.vmap, vmaps_map]
    refine .fn fun p hp => ?_
    obtain ⟨q, hq, rfl⟩ := List.mem_map.mp hp
    rw [occ, any_occs, List.any_eq_false] at ho
    exact ih q hq hd (Bool.eq_false_iff.mpr (ho q hq))
theorem low_fm {w : Wd} (h : Fm w) : ∀ {d : Int}, 0 ≤ d → ((occ w d).any fun x => decide (x = 0)) = false → Fm (w.vmap (shF (-1)) d) := by
  induction h with
  | no => intro d _ _; exact .no
  | rel h =>
    intro d hd ho
    rw [Wd.vmap, vmaps_map]
    refine .rel fun p hp => ?_
    obtain ⟨q, hq, rfl⟩ := List.mem_map.mp hp
    rw [occ, any_occs, List.any_eq_false] at ho
    exact low_tm (h q hq) hd (Bool.eq_false_iff.mpr (ho q hq))
  | same ha hb =>
    intro d hd ho
    rw [occ, List.any_append, Bool.or_eq_false_iff] at ho
    exact .same (low_tm ha hd ho.1) (low_tm hb hd ho.2)
  | iff _ _ iha ihb =>
    intro d hd ho
    rw [occ, List.any_append, Bool.or_eq_false_iff] at ho
    exact .iff (iha hd ho.1) (ihb hd ho.2)
  | all _ ih =>
    intro d hd ho
    exact .all (ih (by omega) ho)
mutual
theorem kn_low : ∀ (w : Wd) (d : Int), kn (w.vmap (shF (-1)) d) = kn w
  | .var n, d => by rw [Wd.vmap, shF]; split <;> rfl
  | .no, d => rfl
  | .fn x ps, d => by rw [Wd.vmap, kn, kn, kns_low ps d]
  | .rel x ps, d => by rw [Wd.vmap, kn, kn, kns_low ps d]
  | .same a b, d => by rw [Wd.vmap, kn, kn, kn_low a d, kn_low b d]
  | .iff a b, d => by rw [Wd.vmap, kn, kn, kn_low a d, kn_low b d]
  | .all a, d => by rw [Wd.vmap, kn, kn, kn_low a (d + 1)]
theorem kns_low : ∀ (ws : List Wd) (d : Int), kns (vmaps (shF (-1)) ws d) = kns ws
  | [], d => rfl
  | w :: ws, d => by rw [vmaps, kns, kns, kn_low w d, kns_low ws d]
end
theorem fitE_ok {s t : Seal} (h : fitE s = .ok t) : t = s ∧ s.under.length ≤ 64 ∧ kn s.said ≤ 300 ∧ s.said.lay ≤ 60 := by
  unfold fitE at h
  split at h
  · rename_i hf
    unfold fitB fairB at hf
    rw [Bool.and_eq_true, Bool.and_eq_true, Bool.and_eq_true, decide_eq_true_eq, decide_eq_true_eq, decide_eq_true_eq, decide_eq_true_eq] at hf
    exact ⟨(Except.ok.inj h).symm, hf.1, hf.2.1, hf.2.2.1⟩
  · cases h
theorem lessW_sub {ws : List Wd} {w u : Wd} (h : u ∈ lessW ws w) : u ∈ ws := (List.mem_filter.mp h).1
theorem joinW_mem {us ws : List Wd} {w : Wd} (h : w ∈ joinW us ws) : w ∈ us ∨ w ∈ ws := by
  rcases List.mem_append.mp h with h | h
  · exact .inl h
  · exact .inr (List.mem_filter.mp h).1
theorem joinW_nodup {us ws : List Wd} (ho : ∀ u ∈ us, Ok u) (hu : us.Nodup) (hw : ws.Nodup) : (joinW us ws).Nodup := by
  unfold joinW
  rw [List.nodup_append]
  refine ⟨hu, hw.sublist List.filter_sublist, fun a ha b hb => ?_⟩
  rintro rfl
  have := (List.mem_filter.mp hb).2
  rw [(any_weq ho).mpr ha] at this
  cases this
theorem SealOk.mono {g g' : Nat} {s : Seal} (h : SealOk g s) (hg : g ≤ g') : SealOk g' s := ⟨h.under, h.nod, h.len, h.said, h.bas, fun b hb => ⟨(h.bin b hb).1, by have := (h.bin b hb).2; omega⟩⟩
section
variable {S : List Seal} {G : List Wd} (hh : HallOk S G)
include hh
theorem step_seal {d : Deed} (hd : d.Fit) {s : Seal} (h : stepP S G d = .ok s) : SealOk (hallG G d).length s := by
  have put_fm : ∀ {w t : Wd}, Fm w → Tm t → Fm (w.vmap (puF t) 0) := fun hw ht => hw.vmap (fun d n h0 h1 => pu_tm ht d n h0 h1) (Int.le_refl 0)
  cases d with
  | assume w =>
    obtain ⟨rfl, h1, h2, h3⟩ := fitE_ok h
    exact ⟨fun u hu => by rw [List.mem_singleton.mp hu]; exact hd, by simp, by simp, hd, by simp, by simp⟩
  | alike t =>
    obtain ⟨rfl, h1, h2, h3⟩ := fitE_ok h
    refine ⟨by simp, by simp, by simp, ⟨fun x hx => ?_, .same hd.2.1 hd.2.1, h3, h2⟩, by simp, by simp⟩
    rw [names] at hx
    rcases List.mem_append.mp hx with h | h <;> exact hd.1 x h
  | axi w =>
    rw [stepP] at h
    split at h
    · cases h
    · obtain ⟨rfl, h1, h2, h3⟩ := fitE_ok h
      refine ⟨by simp, by simp, by simp, hd, by simp, fun b hb => ?_⟩
      rw [List.mem_singleton.mp hb, hallG, List.length_append, List.length_singleton]
      omega
  | every n =>
    rw [stepP] at h
    split at h
    · cases h
    · rename_i s0 hs
      have ok := hh.seals s0 (sealG_some hs).2.2
      split at h
      · cases h
      · rename_i hn
        obtain ⟨rfl, h1, h2, h3⟩ := fitE_ok h
        have hno : ∀ u ∈ s0.under, ((occ u 0).any fun x => decide (x = 0)) = false := fun u hu => by
          have := Bool.eq_false_iff.mpr hn
          rw [List.any_eq_false] at this
          exact Bool.eq_false_iff.mpr (this u hu)
        refine ⟨fun u hu => ?_, ?_, by dsimp only; rw [List.length_map]; exact ok.len, ⟨ok.said.1, .all ok.said.2.1, h3, h2⟩, ok.bas, ok.bin⟩
        · obtain ⟨v, hv, rfl⟩ := List.mem_map.mp hu
          have hk := ok.under v hv
          exact ⟨shF_names hk.1 (-1) 0, low_fm hk.2.1 (Int.le_refl 0) (hno v hv), by have := shF_lay (-1) v 0; have := hk.2.2.1; omega, by rw [kn_low]; exact hk.2.2.2⟩
        · refine List.pairwise_map.mpr (ok.nod.imp_of_mem fun {a b} ha hb hab he => hab ?_)
          rw [← lifted_lowered a 0 (hno a ha), ← lifted_lowered b 0 (hno b hb), he]
  | drop n w =>
    rw [stepP] at h
    split at h
    · cases h
    · rename_i s0 hs
      have ok := hh.seals s0 (sealG_some hs).2.2
      obtain ⟨rfl, h1, h2, h3⟩ := fitE_ok h
      exact ⟨fun u hu => ok.under u (lessW_sub hu), ok.nod.sublist List.filter_sublist, h1, ⟨Ok.iff hd.1 ok.said.1, .iff hd.2.1 ok.said.2.1, h3, h2⟩, ok.bas, ok.bin⟩
  | clash n w =>
    rw [stepP] at h
    split at h
    · cases h
    · rename_i s0 hs
      have ok := hh.seals s0 (sealG_some hs).2.2
      split at h
      · obtain ⟨rfl, h1, h2, h3⟩ := fitE_ok h
        exact ⟨fun u hu => ok.under u (lessW_sub hu), ok.nod.sublist List.filter_sublist, h1, hd, ok.bas, ok.bin⟩
      · cases h
  | one n t =>
    rw [stepP] at h
    split at h
    · cases h
    · rename_i s0 hs
      have ok := hh.seals s0 (sealG_some hs).2.2
      split at h
      · rename_i b hb
        obtain ⟨rfl, h1, h2, h3⟩ := fitE_ok h
        have hs := ok.said
        rw [hb] at hs
        exact ⟨ok.under, ok.nod, ok.len, ⟨puF_names hd.1 (show Ok b from fun x hx => hs.1 x (by rw [names]; exact hx)) 0, put_fm (by cases hs.2.1; assumption) hd.2.1, h3, h2⟩, ok.bas, ok.bin⟩
      · cases h
  | more n w =>
    rw [stepP] at h
    split at h
    · cases h
    · rename_i s0 hs
      have ok := hh.seals s0 (sealG_some hs).2.2
      obtain ⟨rfl, h1, h2, h3⟩ := fitE_ok h
      refine ⟨fun u hu => ?_, joinW_nodup (fun u hu => (ok.under u hu).1) ok.nod (by simp), h1, ok.said, ok.bas, ok.bin⟩
      rcases joinW_mem hu with h | h
      · exact ok.under u h
      · rw [List.mem_singleton.mp h]; exact hd
  | apply n m =>
    rw [stepP] at h
    split at h
    · rename_i s0 t0 hs ht
      have ok := hh.seals s0 (sealG_some hs).2.2
      have okt := hh.seals t0 (sealG_some ht).2.2
      split at h
      · rename_i a b hb
        split at h
        · obtain ⟨rfl, h1, h2, h3⟩ := fitE_ok h
          have hs := ok.said
          rw [hb] at hs
          refine ⟨fun u hu => ?_, joinW_nodup (fun u hu => (ok.under u hu).1) ok.nod okt.nod, h1, ⟨hs.1.iff_l.2, by cases hs.2.1; assumption, h3, h2⟩, riseI_lt _, fun b hb => ?_⟩
          · rcases joinW_mem hu with h | h
            · exact ok.under u h
            · exact okt.under u h
          · rw [riseI_mem] at hb
            rcases List.mem_append.mp hb with h | h
            · exact ok.bin b h
            · exact okt.bin b h
        · cases h
      · cases h
    · cases h
  | swap n m w =>
    rw [stepP] at h
    split at h
    · rename_i s0 t0 hs ht
      have ok := hh.seals s0 (sealG_some hs).2.2
      have okt := hh.seals t0 (sealG_some ht).2.2
      split at h
      · rename_i a b hb
        split at h
        · obtain ⟨rfl, h1, h2, h3⟩ := fitE_ok h
          have hs := ok.said
          rw [hb] at hs
          refine ⟨fun u hu => ?_, joinW_nodup (fun u hu => (ok.under u hu).1) ok.nod okt.nod, h1, ⟨puF_names hs.1.same_l.2 hd.1 0, put_fm hd.2.1 (by cases hs.2.1; assumption), h3, h2⟩, riseI_lt _, fun b hb => ?_⟩
          · rcases joinW_mem hu with h | h
            · exact ok.under u h
            · exact okt.under u h
          · rw [riseI_mem] at hb
            rcases List.mem_append.mp hb with h | h
            · exact ok.bin b h
            · exact okt.bin b h
        · cases h
      · cases h
    · cases h
theorem step_hall {d : Deed} (hd : d.Fit) {s : Seal} (h : stepP S G d = .ok s) (hS : S.length < 2 ^ 20) (hG : G.length < 31) : HallOk (S ++ [s]) (hallG G d) := by
  have hs := step_seal hh hd h
  have hg : G.length ≤ (hallG G d).length ∧ (hallG G d).length ≤ 31 := by cases d <;> simp [hallG] <;> omega
  refine ⟨fun t ht => ?_, fun w hw => ?_, by rw [List.length_append, List.length_singleton]; omega, hg.2⟩
  · rcases List.mem_append.mp ht with ht | ht
    · exact (hh.seals t ht).mono hg.1
    · rw [List.mem_singleton.mp ht]; exact hs
  · cases d with
    | axi v =>
      rcases List.mem_append.mp hw with hw | hw
      · exact hh.grnd w hw
      · rw [List.mem_singleton.mp hw]
        refine ⟨hd, ?_⟩
        rw [stepP] at h
        split at h
        · cases h
        · rename_i hn
          exact Bool.eq_false_iff.mpr hn
    | _ => exact hh.grnd w hw
end
/-! ### deeds as data -/
def Deed.tag : Deed → Str
  | .assume _ => "assume" | .alike _ => "alike" | .axi _ => "axiom" | .every _ => "every" | .drop _ _ => "drop" | .clash _ _ => "clash"
  | .one _ _ => "one" | .more _ _ => "more" | .apply _ _ => "apply" | .swap _ _ _ => "swap"
def Deed.args : Deed → List PyData
  | .assume w => [w.data] | .alike t => [t.data] | .axi w => [w.data] | .every n => [.int n] | .drop n w => [.int n, w.data] | .clash n w => [.int n, w.data]
  | .one n t => [.int n, t.data] | .more n w => [.int n, w.data] | .apply n m => [.int n, .int m] | .swap n m w => [.int n, .int m, w.data]
def Deed.data (d : Deed) : PyData := .tuple (.str d.tag :: d.args)
theorem Ends.no {t : MT} {a rest : MS} {ρ : Rho} {Q : Out → Prop} (h : t ρ = some false) (k : Ends rest ρ Q) : Ends (sSeq (sIf t a sSkip) rest) ρ Q := .nx (by unfold sIf; rw [h]; rfl) k
theorem Ends.hit {t : MT} {a rest : MS} {ρ : Rho} {Q : Out → Prop} (h : t ρ = some true) (k : Ends a ρ fun o => (∀ ρ', o ≠ .nx ρ') ∧ Q o) : Ends (sSeq (sIf t a sSkip) rest) ρ Q := .seq (by unfold Ends sIf; rw [h]; exact .inr k)
end PL

namespace PL
open PySem PySem.Spec PyProof.Rows L2
open Wd
/-! ### what is drawn, not yet looked at -/
def PW (w : Wd) : Prop := Ok w ∧ Fm w ∧ w.lay ≤ 70 ∧ kn w ≤ 2 ^ 20
def Deed.Pre : Deed → Prop
  | .assume w => PW w
  | .alike t => TW t
  | .axi w => PW w
  | .every _ => True
  | .drop _ w => PW w
  | .clash _ w => PW w
  | .one _ t => TW t
  | .more _ w => PW w
  | .apply _ _ => True
  | .swap _ _ w => PW w
theorem FW.pre {w : Wd} (h : FW w) : PW w := ⟨h.1, h.2.1, by have := h.2.2.1; omega, by have := h.2.2.2; omega⟩
theorem Deed.Fit.pre {d : Deed} (h : d.Fit) : d.Pre := by
  cases d <;> first | exact FW.pre h | exact h
/-! ### what is due -/
def Deed.nums : Deed → List Int
  | .every n => [n] | .drop n _ => [n] | .clash n _ => [n] | .one n _ => [n] | .more n _ => [n] | .apply n m => [n, m] | .swap n m _ => [n, m]
  | _ => []
/-! made -/
/-! due -/
end PL

namespace PL
open PySem PySem.Spec PyProof.Rows L2
open Wd
/-! ### what the hall tells -/
theorem look_x {ρ : Rho} {i k : Nat} {S : List Seal} {G : List Wd} {n : Int} {s : Seal} (h0 : ρ[i]? = some (.o (hallOb S G)) ∨ ρ[i]? = some (.r (hallOb S G))) (hk : ρ[k]? = some (.d (.int n))) (hs : sealG S n = some s) :
    xMeth "Hall" "seal_at" (.r i) i Hall_seal_at_m (xCons (xE (mV k)) xNil) ρ = .val s.data ρ := by
  obtain ⟨h1, h2, _⟩ := sealG_some hs
  have hm : xCons (xE (mV k)) xNil ρ = .vals ([PyData.int n].map .d) ρ := by unfold xCons xE xNil mV; rw [hk]; rfl
  rw [meth_r h0 (by decide +kernel) (by decide +kernel) hm]
  show (match Hall_seal_at_m [.r (hallOb S G), .d (.int n)] with | .ret d _ => XOut.val d ρ | .ex c _ => .ex c ρ | .stuck => .stuck) = _
  rw [seal_at_ok h1 h2]
def toldD (s : Seal) : PyData := .tuple [.list (datas s.under), s.said.data]
section
variable {S : List Seal} {G : List Wd}
theorem told_fn {n : Int} {s : Seal} (hs : sealG S n = some s) : Hall_told_m [.r (hallOb S G), .d (.int n)] = .ret (toldD s) [] := by
  have D := sd s
  rw [Hall_told_m]
  refine fn_res rfl ?_
  have e := look_x (i := 0) (k := 1) (ρ := [.r (hallOb S G), .d (.int n), .nil]) (.inr rfl) rfl hs
  refine Ends.nx (asgX_ok e rfl) ?_
  exact Ends.ret (d := toldD s) (by simp only [runF, sSeq, sIf, sRet, sAsg, sNew, sApp, sSkip_ap, sFor, sForZ, mCall, mCons, mNil, mV, mVA, mC, mBin, mUn, mTest, mAndT, mOrT, mNotT, mAnd, mOr, mNot, mBl, bl?, mIf, mTup, mLst, mSl, mSome, mNo, mComp, mIt, mItB, mR1, mR2, mR1c, mZ, mZB, mYes, mkArgs, outs, itemsOf, isO, listM, tupleM, lenM, intM, subM_i, ltM_i, leM_i, gtM_i, geM_i, addM, Option.bind_some, Option.bind_none, Option.map_some, Option.map_none, List.length_cons, List.length_nil, List.getElem?_cons_zero, List.getElem?_cons_succ, List.set_cons_zero, List.set_cons_succ, List.cons_append, List.nil_append, List.append_nil, List.replicate, if_true, if_false, Nat.reduceAdd, Nat.reduceSub, Nat.reduceLeDiff, Nat.reduceEqDiff, reduceIte, Bool.false_eq_true, reduceCtorEq, Bool.not_true, Bool.not_false, decide_true, decide_false, id, D.i0, D.i1]; rfl) rfl
theorem bases_fn {n : Int} {s : Seal} (hs : sealG S n = some s) : Hall_bases_m [.r (hallOb S G), .d (.int n)] = .ret (intsD s.bases) [] := by
  have D := sd s
  rw [Hall_bases_m]
  refine fn_res rfl ?_
  have e := look_x (i := 0) (k := 1) (ρ := [.r (hallOb S G), .d (.int n)]) (.inr rfl) rfl hs
  have el : listM (intsT s.bases) = some (intsD s.bases) := rfl
  exact .last (o := .rt (intsD s.bases) [.r (hallOb S G), .d (.int n)]) (by simp only [runF, sSeq, sIf, sRet, sAsg, sNew, sApp, sSkip_ap, sFor, sForZ, mCall, mCons, mNil, mV, mVA, mC, mBin, mUn, mTest, mAndT, mOrT, mNotT, mAnd, mOr, mNot, mBl, bl?, mIf, mTup, mLst, mSl, mSome, mNo, mComp, mIt, mItB, mR1, mR2, mR1c, mZ, mZB, mYes, mkArgs, outs, itemsOf, isO, tupleM, lenM, intM, subM_i, ltM_i, leM_i, gtM_i, geM_i, addM, Option.bind_some, Option.bind_none, Option.map_some, Option.map_none, List.length_cons, List.length_nil, List.getElem?_cons_zero, List.getElem?_cons_succ, List.set_cons_zero, List.set_cons_succ, List.cons_append, List.nil_append, List.append_nil, List.replicate, if_true, if_false, Nat.reduceAdd, Nat.reduceSub, Nat.reduceLeDiff, Nat.reduceEqDiff, reduceIte, Bool.false_eq_true, reduceCtorEq, Bool.not_true, Bool.not_false, decide_true, decide_false, id, xE, xCall, xNil, xCons, xSlot, xTup, xUn, xBin, xOut, xFin, slsOf, slOf, dsOf, putB, xT, xTest, xAndT, xOrT, xNotT, sAsgX, sRetX, sDoX, sIfX, sAppX, sExc, sTry, sHds, noEx, sTryAs, wipeO, mIsE, sFz, sPop, negM, mChain, List.nodup_nil, List.all_nil, Bool.and_true, Bool.true_and, Hall_bases_b, e, D.i2, el]) rfl
theorem many_fn : Hall_many_m [.r (hallOb S G)] = .ret (.int (S.length : Int)) [] := by
  have ha := attr_seals (ρ := [.r (hallOb S G)]) (i := 0) (S := S) (G := G) (.inr rfl)
  have hlen : lenM (.list (S.map Seal.data)) = some (.int (S.length : Int)) := by simp only [lenM, List.length_map]
  simp only [Hall_many_m, Hall_many_b, runF, sSeq, sIf, sRet, sAsg, sNew, sApp, sSkip_ap, sFor, sForZ, mCall, mCons, mNil, mV, mVA, mC, mBin, mUn, mTest, mAndT, mOrT, mNotT, mAnd, mOr, mNot, mBl, bl?, mIf, mTup, mLst, mSl, mSome, mNo, mComp, mIt, mItB, mR1, mR2, mR1c, mZ, mZB, mYes, mkArgs, outs, itemsOf, isO, listM, tupleM, intM, subM_i, ltM_i, leM_i, gtM_i, geM_i, addM, Option.bind_some, Option.bind_none, Option.map_some, Option.map_none, List.length_cons, List.length_nil, List.getElem?_cons_zero, List.getElem?_cons_succ, List.set_cons_zero, List.set_cons_succ, List.cons_append, List.nil_append, List.append_nil, List.replicate, if_true, if_false, Nat.reduceAdd, Nat.reduceSub, Nat.reduceLeDiff, Nat.reduceEqDiff, reduceIte, Bool.false_eq_true, reduceCtorEq, Bool.not_true, Bool.not_false, decide_true, decide_false, id, ha, hlen]
theorem axioms_fn : Hall_axioms_m [.r (hallOb S G)] = .ret (.list (datas G)) [] := by
  have ha := attr_ground (ρ := [.r (hallOb S G)]) (i := 0) (S := S) (G := G) (.inr rfl)
  simp only [Hall_axioms_m, Hall_axioms_b, runF, sSeq, sIf, sRet, sAsg, sNew, sApp, sSkip_ap, sFor, sForZ, mCall, mCons, mNil, mV, mVA, mC, mBin, mUn, mTest, mAndT, mOrT, mNotT, mAnd, mOr, mNot, mBl, bl?, mIf, mTup, mLst, mSl, mSome, mNo, mComp, mIt, mItB, mR1, mR2, mR1c, mZ, mZB, mYes, mkArgs, outs, itemsOf, isO, listM, tupleM, lenM, intM, subM_i, ltM_i, leM_i, gtM_i, geM_i, addM, Option.bind_some, Option.bind_none, Option.map_some, Option.map_none, List.length_cons, List.length_nil, List.getElem?_cons_zero, List.getElem?_cons_succ, List.set_cons_zero, List.set_cons_succ, List.cons_append, List.nil_append, List.append_nil, List.replicate, if_true, if_false, Nat.reduceAdd, Nat.reduceSub, Nat.reduceLeDiff, Nat.reduceEqDiff, reduceIte, Bool.false_eq_true, reduceCtorEq, Bool.not_true, Bool.not_false, decide_true, decide_false, id, ha]
end
theorem isi_list (ds : List PyData) : isiM "list" (.list ds) = some (.bool true) := by
  simp only [isiM, tyName, show kitB "list" "list" = some true from by decide +kernel, Option.map_some]
theorem rows_like140 {ds : List PyData} (h : ∀ d ∈ ds, Lk 140 d) : rows_like_l_m [.d (.list ds), .d (.list ds)] = .ret (.bool true) [] := by
  have key := forZ_same (i := 2) (j := 3) (body := sIf (mNotT (mTest (mCall [true, true] (like_l_m 140) (mCons (mV 2) (mCons (mV 3) mNil))))) (sRet (mC (.bool false))) sSkip)
    (fun ρ => ∃ a b, ρ = [.d (.list ds), .d (.list ds), a, b] ∧ isO (some a) = false ∧ isO (some b) = false) ds [.d (.list ds), .d (.list ds), .nil, .nil] ⟨_, _, rfl, rfl, rfl⟩ (by
      rintro d hd' ρ ⟨a, b, rfl, ha, hb⟩
      refine ⟨by simp [ha, hb], [.d (.list ds), .d (.list ds), .d d, .d d], ?_, _, _, rfl, rfl, rfl⟩
      simp only [runF, sSeq, sIf, sRet, sAsg, sNew, sApp, sSkip_ap, sFor, sForZ, mCall, mCons, mNil, mV, mVA, mC, mBin, mUn, mTest, mAndT, mOrT, mNotT, mAnd, mOr, mNot, mBl, bl?, mIf, mTup, mLst, mSl, mSome, mNo, mComp, mIt, mItB, mR1, mR2, mR1c, mZ, mZB, mYes, mkArgs, outs, itemsOf, isO, listM, tupleM, lenM, intM, subM_i, ltM_i, leM_i, gtM_i, geM_i, addM, Option.bind_some, Option.bind_none, Option.map_some, Option.map_none, List.length_cons, List.length_nil, List.getElem?_cons_zero, List.getElem?_cons_succ, List.set_cons_zero, List.set_cons_succ, List.cons_append, List.nil_append, List.append_nil, List.replicate, if_true, if_false, Nat.reduceAdd, Nat.reduceSub, Nat.reduceLeDiff, Nat.reduceEqDiff, reduceIte, Bool.false_eq_true, reduceCtorEq, Bool.not_true, Bool.not_false, decide_true, decide_false, id, like_fn 140 d (h d hd')])
  obtain ⟨ρ', e, a, b, rfl, ha, hb⟩ := key
  simp only [rows_like_l_m, rows_like_l_b, runF, sSeq, sIf, sRet, sAsg, sNew, sApp, sSkip_ap, sFor, sForZ, mCall, mCons, mNil, mV, mVA, mC, mBin, mUn, mTest, mAndT, mOrT, mNotT, mAnd, mOr, mNot, mBl, bl?, mIf, mTup, mLst, mSl, mSome, mNo, mComp, mIt, mItB, mR1, mR2, mR1c, mZ, mZB, mYes, mkArgs, outs, itemsOf, isO, listM, tupleM, lenM, intM, subM_i, ltM_i, leM_i, gtM_i, geM_i, addM, Option.bind_some, Option.bind_none, Option.map_some, Option.map_none, List.length_cons, List.length_nil, List.getElem?_cons_zero, List.getElem?_cons_succ, List.set_cons_zero, List.set_cons_succ, List.cons_append, List.nil_append, List.append_nil, List.replicate, if_true, if_false, Nat.reduceAdd, Nat.reduceSub, Nat.reduceLeDiff, Nat.reduceEqDiff, reduceIte, Bool.false_eq_true, reduceCtorEq, Bool.not_true, Bool.not_false, decide_true, decide_false, id, isi_list, neM_int, and_self, e]
theorem fw_like {w : Wd} (h : FW w) : Lk 140 w.data := (word_lk 70 w (by have := h.2.2.1; omega) h.1).mono (by decide)
theorem words_like140 {ws : List Wd} (h : ∀ w ∈ ws, FW w) : rows_like_l_m [.d (.list (datas ws)), .d (.list (datas ws))] = .ret (.bool true) [] :=
  rows_like140 (lk_datas fun w hw => fw_like (h w hw))
theorem ints_like140 (xs : List Int) : rows_like_l_m [.d (intsD xs), .d (intsD xs)] = .ret (.bool true) [] :=
  rows_like140 fun d hd => by
    obtain ⟨x, _, rfl⟩ := List.mem_map.mp hd
    exact .int
/-! ### one step -/
end PL

namespace PL
open PySem PySem.Spec PyProof.Rows L2
open Wd
/-! ### deeds drawn -/
inductive It
  | wd (w : Wd) | nm (n : Int)
def It.data : It → PyData
  | .wd w => w.data
  | .nm n => .int n
def Deed.its : Deed → List It
  | .assume w => [.wd w] | .alike t => [.wd t] | .axi w => [.wd w] | .every n => [.nm n] | .drop n w => [.nm n, .wd w] | .clash n w => [.nm n, .wd w]
  | .one n t => [.nm n, .wd t] | .more n w => [.nm n, .wd w] | .apply n m => [.nm n, .nm m] | .swap n m w => [.nm n, .nm m, .wd w]
/-! tame -/
end PL

namespace PL
open PySem PySem.Spec PyProof.Rows L2
open Wd
/-- the first cells behind one -/
theorem cut_ints {ns : List Int} {lo hi : Nat} : ∃ cs : List Int, slM (.list (ns.map .int)) (some (lo : Int)) (some (hi : Int)) = some (.list (cs.map .int)) ∧ cs.length ≤ hi - lo := by
  refine ⟨(ns.drop (min lo ns.length)).take (min hi ns.length - min lo ns.length), ?_, ?_⟩
  · show some (PyData.list (cutD (ns.map .int) _ _)) = _
    unfold cutD
    rw [HT.sIx_nat, HT.sIx_nat, List.length_map, List.map_take, List.map_drop]
  · rw [List.length_take, List.length_drop]; omega
theorem hall_nil : HallOk [] [] := ⟨by simp, by simp, by simp, by simp⟩
theorem init_fn : Hall_init_m [.o (.ins "Hall" [])] = .ret .none [hallOb [] []] := by kernel_rfl
end PL

namespace PL
open PySem PySem.Spec PyProof.Rows L2
open Wd
/-! ### what is sealed is true -/
end PL

namespace PL
open PySem PySem.Spec PyProof.Rows L2
open Wd
/-! ### what a seal stands on -/
def gvn (S : List Seal) (n : Int) : List Int := match sealG S n with
  | some s => s.given
  | none => []
inductive Rch (S : List Seal) (n : Int) : Int → Prop
  | base : Rch S n n
  | step {k g : Int} : Rch S n k → g ∈ gvn S k → Rch S n g
/-- given numbers are those of earlier seals -/
def GivOk (S : List Seal) : Prop := ∀ k g : Int, g ∈ gvn S k → 0 ≤ g ∧ g < k
theorem sealG_app {S : List Seal} {x : Seal} {n : Int} : sealG (S ++ [x]) n = if n = (S.length : Int) then some x else sealG S n := by
  unfold sealG
  by_cases h : n = (S.length : Int)
  · subst h
    rw [if_pos rfl, if_pos (by omega), Int.toNat_natCast]
    simp
  · rw [if_neg h]
    by_cases h0 : 0 ≤ n
    · rw [if_pos h0, if_pos h0]
      by_cases h1 : n.toNat < S.length
      · rw [List.getElem?_append_left h1]
      · rw [List.getElem?_append_right (by omega), List.getElem?_eq_none (l := S) (by omega)]
        exact List.getElem?_eq_none (by rw [List.length_singleton]; omega)
    · rw [if_neg h0, if_neg h0]
theorem GivOk.nil : GivOk [] := fun k g h => by
  have : sealG [] k = none := by unfold sealG; split <;> simp
  rw [gvn, this] at h
  cases h
theorem GivOk.app {S : List Seal} (h : GivOk S) {x : Seal} (hx : ∀ g ∈ x.given, 0 ≤ g ∧ g < (S.length : Int)) : GivOk (S ++ [x]) := fun k g hg => by
  rw [gvn, sealG_app] at hg
  by_cases e : k = (S.length : Int)
  · rw [if_pos e] at hg
    rw [e]
    exact hx g hg
  · rw [if_neg e] at hg
    exact h k g hg
theorem sealG_in {S : List Seal} {n : Int} {s : Seal} (h : sealG S n = some s) : 0 ≤ n ∧ n < (S.length : Int) := by
  obtain ⟨h1, h2, _⟩ := sealG_some h
  have := (List.getElem?_eq_some_iff.mp h2).1
  omega
theorem fitE_id {s t : Seal} (h : fitE s = .ok t) : t = s := by
  unfold fitE at h
  split at h
  · cases h; rfl
  · cases h
/-- a seal keeps the numbers that its step was given -/
theorem step_nums {S : List Seal} {G : List Wd} {d : Deed} {x : Seal} (h : stepP S G d = .ok x) : x.given = d.nums ∧ ∀ g ∈ d.nums, 0 ≤ g ∧ g < (S.length : Int) := by
  cases d with
  | assume w => rw [stepP] at h; rw [fitE_id h]; exact ⟨rfl, fun g hg => by cases hg⟩
  | alike t => rw [stepP] at h; rw [fitE_id h]; exact ⟨rfl, fun g hg => by cases hg⟩
  | axi w =>
    rw [stepP] at h
    split at h
    · cases h
    · rw [fitE_id h]; exact ⟨rfl, fun g hg => by cases hg⟩
  | every n =>
    rw [stepP] at h
    split at h
    · cases h
    · rename_i s hs
      split at h
      · cases h
      · rw [fitE_id h]; exact ⟨rfl, fun g hg => by rw [List.mem_singleton.mp hg]; exact sealG_in hs⟩
  | drop n w =>
    rw [stepP] at h
    split at h
    · cases h
    · rename_i s hs
      rw [fitE_id h]; exact ⟨rfl, fun g hg => by rw [List.mem_singleton.mp hg]; exact sealG_in hs⟩
  | clash n w =>
    rw [stepP] at h
    split at h
    · cases h
    · rename_i s hs
      split at h
      · rw [fitE_id h]; exact ⟨rfl, fun g hg => by rw [List.mem_singleton.mp hg]; exact sealG_in hs⟩
      · cases h
  | one n t =>
    rw [stepP] at h
    split at h
    · cases h
    · rename_i s hs
      split at h
      · rw [fitE_id h]; exact ⟨rfl, fun g hg => by rw [List.mem_singleton.mp hg]; exact sealG_in hs⟩
      · cases h
  | more n w =>
    rw [stepP] at h
    split at h
    · cases h
    · rename_i s hs
      rw [fitE_id h]; exact ⟨rfl, fun g hg => by rw [List.mem_singleton.mp hg]; exact sealG_in hs⟩
  | apply n m =>
    rw [stepP] at h
    split at h
    · rename_i s t hs ht
      split at h
      · split at h
        · rw [fitE_id h]
          refine ⟨rfl, fun g hg => ?_⟩
          rcases List.mem_cons.mp hg with rfl | hg
          · exact sealG_in hs
          · rw [List.mem_singleton.mp hg]; exact sealG_in ht
        · cases h
      · cases h
    · cases h
  | swap n m w =>
    rw [stepP] at h
    split at h
    · rename_i s t hs ht
      split at h
      · split at h
        · rw [fitE_id h]
          refine ⟨rfl, fun g hg => ?_⟩
          rcases List.mem_cons.mp hg with rfl | hg
          · exact sealG_in hs
          · rw [List.mem_singleton.mp hg]; exact sealG_in ht
        · cases h
      · cases h
    · cases h
theorem Rch.le {S : List Seal} {n : Int} (hg : GivOk S) {k : Int} (h : Rch S n k) (h0 : 0 ≤ n) : 0 ≤ k ∧ k ≤ n := by
  induction h with
  | base => exact ⟨h0, Int.le_refl n⟩
  | step _ hm ih => have := hg _ _ hm; omega
theorem Rch.closed {S : List Seal} {n : Int} {ks : List Int} (hn : n ∈ ks) (hc : ∀ k ∈ ks, ∀ g ∈ gvn S k, g ∈ ks) {k : Int} (h : Rch S n k) : k ∈ ks := by
  induction h with
  | base => exact hn
  | step _ hm ih => exact hc _ ih _ hm
theorem lt_of_le {xs : List Int} (h : xs.Pairwise (· ≤ ·)) (hn : xs.Nodup) : xs.Pairwise (· < ·) := by
  induction xs with
  | nil => exact .nil
  | cons x xs ih =>
    rw [List.pairwise_cons] at h
    rw [List.nodup_cons] at hn
    refine List.pairwise_cons.mpr ⟨fun y hy => ?_, ih h.2 hn.2⟩
    have := h.1 y hy
    have : x ≠ y := fun e => hn.1 (by rw [e]; exact hy)
    omega
theorem sortI_lt {xs : List Int} (hn : xs.Nodup) : (sortI xs).Pairwise (· < ·) := lt_of_le (sortI_le xs) ((sortI_perm xs).nodup_iff.mpr hn)
theorem sortI_mem {xs : List Int} {x : Int} : x ∈ sortI xs ↔ x ∈ xs := (sortI_perm xs).mem_iff
theorem sortI_same {xs ys : List Int} (hx : xs.Nodup) (hy : ys.Nodup) (h : ∀ k, k ∈ xs ↔ k ∈ ys) : sortI xs = sortI ys :=
  rise_eq (sortI_lt hx) (sortI_lt hy) fun k => by rw [sortI_mem, sortI_mem]; exact h k
theorem nod_len {xs : List Int} (hn : xs.Nodup) {m : Nat} (hb : ∀ x ∈ xs, 0 ≤ x ∧ x < (m : Int)) : xs.length ≤ m := by
  have h := rise_len (n := m) (sortI_lt hn) (lo := 0) (fun x hx => hb x (sortI_mem.mp hx)) (by omega)
  have := (sortI_perm xs).length_eq
  omega
/-! statements -/
/-- a for over a falling range -/
theorem Ends.forC {i n : Nat} {lo c : Int} {src : ML} {body : MS} {ρ : Rho} {Q : Out → Prop} (I : Nat → Rho → Prop) (hs : src ρ = some (rngC lo c n)) (h0 : I 0 ρ)
    (h : ∀ j ρ, j < n → I j ρ → isO ρ[i]? = false ∧ Ends body (ρ.set i (.d (.int (lo + (j : Int) * c)))) fun o => ∃ ρ', o = .nx ρ' ∧ I (j + 1) ρ')
    (hq : ∀ ρ', I n ρ' → Q (.nx ρ')) : Ends (sFor i src body) ρ Q :=
  .forG (α := Nat) (g := fun j => .int (lo + (j : Int) * c)) (all := List.range n) (fun vs ρ => I vs.length ρ) hs h0 (fun vs j us ρ e hI => by
    have hl := congrArg List.length e
    rw [List.length_append, List.length_cons, List.length_range] at hl
    have hj : j = vs.length := by
      have : (List.range n)[vs.length]? = some j := by rw [← e]; simp
      rw [List.getElem?_range (by omega)] at this
      exact (Option.some.inj this).symm
    subst hj
    rw [List.length_append, List.length_singleton]
    exact h _ ρ (by omega) hI) (fun ρ' hI => hq ρ' (by rwa [List.length_range] at hI))
theorem inM_intsN (x : Int) (xs : List Int) : inM true (.int x) (intsD xs) = some (.bool (!decide (x ∈ xs))) := by
  have h := inM_ints x xs
  unfold inM at h ⊢
  simp only [intsD, itemsOf, Option.bind_some] at h ⊢
  split at h
  · rename_i hc
    rw [if_pos hc]
    rw [Bool.false_xor] at h
    rw [Bool.true_xor]
    injection h with h
    injection h with h
    rw [h]
  · cases h
theorem sortedM_ints (xs : List Int) : sortedM (intsD xs) = some (intsD (sortI xs)) := by
  unfold sortedM intsD
  dsimp only
  rw [intsOf_map]
  rfl
theorem seal_there {S : List Seal} {n : Int} (h : 0 ≤ n ∧ n < (S.length : Int)) : ∃ s, sealG S n = some s := by
  cases hs : sealG S n with
  | none => exact absurd h (sealG_none hs)
  | some s => exact ⟨s, rfl⟩
/-! the program's own -/
theorem stood_fn {S : List Seal} {G : List Wd} (hg : GivOk S) (hS : S.length ≤ 2 ^ 20) {n : Int} (hn : 0 ≤ n ∧ n < (S.length : Int)) :
    ∃ ks : List Int, Hall_stood_m [.r (hallOb S G), .d (.int n)] = .ret (intsD (sortI ks)) [] ∧ ks.Nodup ∧ ∀ k, k ∈ ks ↔ Rch S n k := by
  have hbd : ∀ k, Rch S n k → 0 ≤ k ∧ k < ((n + 1).toNat : Int) := fun k hk => by have := hk.le hg hn.1; omega
  have key : Ends (sFor 3 (mR3 (mV 1) (mUn negM (mC (.int 1))) (mUn negM (mC (.int 1))))
  (sIf (mDIn 2 (mV 3))
  (sFor 4 (mIt (mBin ixM (mBin ixM (mAttrL 0 "Hall" "seals") (mV 3)) (mC (.int 3))))
  (sDSet 2 (mV 4)))
  sSkip)) [.r (hallOb S G), .d (.int n), .o (.dct [n]), .nil, .nil] fun o => ∃ ρ, o = .nx ρ ∧ ∃ (ks : List Int) (s3 s4 : Sl), ks.Nodup ∧ (∀ k, k ∈ ks ↔ Rch S n k) ∧ ρ = [.r (hallOb S G), .d (.int n), .o (.dct ks), s3, s4] := by
    refine Ends.forC (n := (n + 1).toNat) (lo := n) (c := -1) (fun j ρ => ∃ (ks : List Int) (s3 s4 : Sl), isO (some s3) = false ∧ isO (some s4) = false ∧ ρ = [.r (hallOb S G), .d (.int n), .o (.dct ks), s3, s4] ∧ ks.Nodup ∧ n ∈ ks ∧ (∀ k ∈ ks, Rch S n k) ∧ ∀ k ∈ ks, n - (j : Int) < k → ∀ g ∈ gvn S k, g ∈ ks) ?_ ⟨[n], .nil, .nil, rfl, rfl, rfl, by simp, by simp, fun k hk => by rw [List.mem_singleton.mp hk]; exact .base, fun k hk h => by rw [List.mem_singleton.mp hk] at h; omega⟩ ?_ ?_
    · have h1 : negM (.int 1) = some (.int (-1)) := rfl
      simp only [mR3, mV, mUn, mC, List.getElem?_cons_succ, List.getElem?_cons_zero, Option.bind_some, h1]
      rw [if_pos (by refine ⟨?_, ?_, ?_⟩ <;> first | trivial | omega)]
      rw [show n - -1 = n + 1 by omega]
    · rintro j ρ hj ⟨ks, s3, s4, h3, h4, rfl, hnod, hnm, hr, hc⟩
      refine ⟨h3, ?_⟩
      generalize hkk : n + (j : Int) * -1 = kk
      have hkb : 0 ≤ kk ∧ kk < (S.length : Int) := by omega
      obtain ⟨s, hs⟩ := seal_there hkb
      obtain ⟨q1, q2, _⟩ := sealG_some hs
      have hgx : gvn S kk = s.given := by rw [gvn, hs]
      have ht : mDIn 2 (mV 3) ([.r (hallOb S G), .d (.int n), .o (.dct ks), s3, s4].set 3 (.d (.int kk))) = some (decide (kk ∈ ks)) := by
        simp only [mDIn, mV, dctAt, List.set_cons_succ, List.set_cons_zero, List.getElem?_cons_succ, List.getElem?_cons_zero]
      refine Ends.ite ht (fun hk => ?_) (fun hk => Ends.skip ⟨_, rfl, ks, .d (.int kk), s4, rfl, h4, rfl, hnod, hnm, hr, fun k hm hlt => ?_⟩)
      · have hk := of_decide_eq_true hk
        have hsrc : mIt (mBin ixM (mBin ixM (mAttrL 0 "Hall" "seals") (mV 3)) (mC (.int 3))) [.r (hallOb S G), .d (.int n), .o (.dct ks), .d (.int kk), s4] = some (s.given.map .int) := by
          have ha := attr_seals (ρ := [.r (hallOb S G), .d (.int n), .o (.dct ks), .d (.int kk), s4]) (i := 0) (S := S) (G := G) (.inr rfl)
          have hg2 : (S.map Seal.data)[kk.toNat]? = some s.data := by rw [List.getElem?_map, q2]; rfl
          have e := atI_nat hg2
          rw [show ((kk.toNat : Nat) : Int) = kk by omega] at e
          have e2 : ixM (.list (S.map Seal.data)) (.int kk) = some s.data := e
          have e3 : ixM s.data (.int 3) = some (intsT s.given) := rfl
          simp only [runF, sSeq, sIf, sRet, sAsg, sNew, sApp, sSkip_ap, sFor, sForZ, mCall, mCons, mNil, mV, mVA, mC, mBin, mUn, mTest, mAndT, mOrT, mNotT, mAnd, mOr, mNot, mBl, bl?, mIf, mTup, mLst, mSl, mSome, mNo, mComp, mIt, mItB, mR1, mR2, mR1c, mZ, mZB, mYes, mkArgs, outs, itemsOf, isO, listM, tupleM, lenM, intM, subM_i, ltM_i, leM_i, gtM_i, geM_i, addM, Option.bind_some, Option.bind_none, Option.map_some, Option.map_none, List.length_cons, List.length_nil, List.getElem?_cons_zero, List.getElem?_cons_succ, List.set_cons_zero, List.set_cons_succ, List.cons_append, List.nil_append, List.append_nil, List.replicate, if_true, if_false, Nat.reduceAdd, Nat.reduceSub, Nat.reduceLeDiff, Nat.reduceEqDiff, reduceIte, Bool.false_eq_true, reduceCtorEq, Bool.not_true, Bool.not_false, decide_true, decide_false, id, ha, e2, e3]
          rfl
        refine Ends.forG (g := PyData.int) (all := s.given) (fun vs ρ => ∃ (ks2 : List Int) (s4 : Sl), isO (some s4) = false ∧ ρ = [.r (hallOb S G), .d (.int n), .o (.dct ks2), .d (.int kk), s4] ∧ ks2.Nodup ∧ (∀ k ∈ ks, k ∈ ks2) ∧ (∀ k ∈ ks2, Rch S n k ∧ (k ∈ ks ∨ k < kk)) ∧ ∀ g ∈ vs, g ∈ ks2) hsrc ⟨ks, s4, h4, rfl, hnod, fun k h => h, fun k h => ⟨hr k h, .inl h⟩, by simp⟩ ?_ ?_
        · rintro vs g us ρ evs ⟨ks2, s4, h4, rfl, hnod2, hsub, hr2, hv⟩
          have hgm : g ∈ s.given := by rw [← evs]; simp
          have hgg : g ∈ gvn S kk := by rw [hgx]; exact hgm
          have hlen : ks2.length ≤ (n + 1).toNat := nod_len hnod2 fun k h => hbd k (hr2 k h).1
          have hz : ks2.length < sizeLine := by rw [sizeLine_eq]; omega
          refine ⟨h4, Ends.last (o := .nx [.r (hallOb S G), .d (.int n), .o (.dct (putD ks2 g)), .d (.int kk), .d (.int g)]) ?_ ⟨_, rfl, putD ks2 g, .d (.int g), rfl, rfl, ?_⟩⟩
          · simp only [sDSet, mV, dctAt, List.set_cons_succ, List.set_cons_zero, List.getElem?_cons_succ, List.getElem?_cons_zero]
            rw [if_pos hz]
          · unfold putD
            by_cases hm : g ∈ ks2
            · rw [if_pos hm]
              refine ⟨hnod2, hsub, hr2, fun y hy => ?_⟩
              rcases List.mem_append.mp hy with h | h
              · exact hv y h
              · rw [List.mem_singleton.mp h]; exact hm
            · rw [if_neg hm]
              refine ⟨List.nodup_append.mpr ⟨hnod2, by simp, fun a ha b hb => ?_⟩, fun k h => List.mem_append.mpr (.inl (hsub k h)), fun k h => ?_, fun y hy => ?_⟩
              · rw [List.mem_singleton.mp hb]
                exact fun e => hm (by rw [← e]; exact ha)
              · rcases List.mem_append.mp h with h | h
                · exact hr2 k h
                · rw [List.mem_singleton.mp h]
                  exact ⟨.step (hr kk hk) hgg, .inr (hg kk g hgg).2⟩
              · rcases List.mem_append.mp hy with h | h
                · exact List.mem_append.mpr (.inl (hv y h))
                · exact List.mem_append.mpr (.inr h)
        · rintro ρ ⟨ks2, s4, h4, rfl, hnod2, hsub, hr2, hv⟩
          refine ⟨_, rfl, ks2, _, s4, rfl, h4, rfl, hnod2, hsub n hnm, fun k h => (hr2 k h).1, fun k hm hlt g hgk => ?_⟩
          by_cases e : k = kk
          · subst e
            exact hv g (by rw [← hgx]; exact hgk)
          · have hk2 : k ∈ ks := (hr2 k hm).2.resolve_right (by omega)
            exact hsub g (hc k hk2 (by omega) g hgk)
      · have hk := of_decide_eq_false hk
        have : k ≠ kk := fun e => hk (by rw [← e]; exact hm)
        exact hc k hm (by omega)
    · rintro ρ ⟨ks, s3, s4, h3, h4, rfl, hnod, hnm, hr, hc⟩
      refine ⟨_, rfl, ks, s3, s4, hnod, fun k => ⟨hr k, fun h => h.closed hnm fun k hk => hc k hk ?_⟩, rfl⟩
      have := hbd k (hr k hk)
      omega
  obtain ⟨ρ, e, ks, s3, s4, hnod, hr, rfl⟩ := key
  refine ⟨ks, ?_, hnod, hr⟩
  obtain ⟨s, hs⟩ := seal_there hn
  obtain ⟨q1, q2, _⟩ := sealG_some hs
  rw [Hall_stood_m]
  refine fn_ret rfl (by simp [isO]) ?_
  have hm : xCons (xE (mV 1)) xNil [.r (hallOb S G), .d (.int n), .nil, .nil, .nil] = .vals ([PyData.int n].map .d) [.r (hallOb S G), .d (.int n), .nil, .nil, .nil] := rfl
  have e1 : sDoX (xMeth "Hall" "seal_at" (.r 0) 0 Hall_seal_at_m (xCons (xE (mV 1)) xNil)) [.r (hallOb S G), .d (.int n), .nil, .nil, .nil] = .nx [.r (hallOb S G), .d (.int n), .nil, .nil, .nil] := by
    unfold sDoX
    rw [meth_r (.inr rfl) (by decide +kernel) (by decide +kernel) hm]
    show (match (match Hall_seal_at_m [.r (hallOb S G), .d (.int n)] with | .ret d _ => XOut.val d _ | .ex c _ => .ex c _ | .stuck => .stuck) with | .val _ ρ1 => Out.nx ρ1 | .ex c ρ1 => .ex c ρ1 | .stuck => .stuck) = _
    rw [seal_at_ok q1 q2]
  refine Ends.nx e1 ?_
  refine Ends.nx (ρ' := [.r (hallOb S G), .d (.int n), .o (.dct [n]), .nil, .nil]) (by
    simp only [sDNew, mV, List.getElem?_cons_succ, List.getElem?_cons_zero]
    rfl) ?_
  refine Ends.nx e ?_
  have hsr := sortedM_ints ks
  have hsr : sortedM (.list (ks.map .int)) = some (intsD (sortI ks)) := hsr
  exact Ends.ret (by simp only [mUn, mListD, dctAt, List.getElem?_cons_succ, List.getElem?_cons_zero, Option.map_some, Option.bind_some, hsr]) ⟨_, rfl⟩
end PL

namespace PL
open PySem PySem.Spec PyProof.Rows L2
open Wd
/-! ### rows of deeds that fit -/
inductive Run : List Deed → List Seal → List Wd → Prop
  | nil : Run [] [] []
  | snoc {ds : List Deed} {S : List Seal} {G : List Wd} {d : Deed} {x : Seal} : Run ds S G → d.Fit → stepP S G d = .ok x → Run (ds ++ [d]) (S ++ [x]) (hallG G d)
theorem Run.len {ds : List Deed} {S : List Seal} {G : List Wd} (h : Run ds S G) : ds.length = S.length := by
  induction h with
  | nil => rfl
  | snoc _ _ _ ih => rw [List.length_append, List.length_append, ih]; rfl
theorem Run.glen {ds : List Deed} {S : List Seal} {G : List Wd} (h : Run ds S G) : G.length ≤ S.length := by
  induction h with
  | nil => exact Nat.le_refl _
  | @snoc ds S G d x _ _ _ ih => cases d <;> simp [hallG] <;> omega
theorem Run.hall {ds : List Deed} {S : List Seal} {G : List Wd} (h : Run ds S G) : ds.length ≤ 31 → HallOk S G := by
  induction h with
  | nil => exact fun _ => hall_nil
  | @snoc ds S G d x hr hd hx ih =>
    intro hl
    rw [List.length_append, List.length_singleton] at hl
    have := hr.len
    have := hr.glen
    exact step_hall (ih (by omega)) hd hx (by omega) (by omega)
theorem Run.take {ds : List Deed} {S : List Seal} {G : List Wd} (h : Run ds S G) : ∀ k, k ≤ ds.length → ∃ G', Run (ds.take k) (S.take k) G' := by
  induction h with
  | nil => exact fun k _ => ⟨[], by rw [List.take_nil, List.take_nil]; exact .nil⟩
  | @snoc ds S G d x hr hd hx ih =>
    intro k hk
    have hl := hr.len
    rw [List.length_append, List.length_singleton] at hk
    by_cases e : k ≤ ds.length
    · obtain ⟨G', h⟩ := ih k e
      exact ⟨G', by rw [List.take_append_of_le_length e, List.take_append_of_le_length (by omega)]; exact h⟩
    · refine ⟨hallG G d, ?_⟩
      rw [List.take_of_length_le (by rw [List.length_append, List.length_singleton]; omega), List.take_of_length_le (by rw [List.length_append, List.length_singleton]; omega)]
      exact .snoc hr hd hx
/-! ### a hall with two seals ahead -/
/-! ### a deed of a row -/
end PL

namespace PL
open PySem PySem.Spec PyProof.Rows L2
open Wd
end PL

namespace PL
open PySem PySem.Spec PyProof.Rows L2
open Wd
/-! ### a row, played -/
inductive RunFrom : List Seal → List Wd → List Deed → List Seal → List Wd → Prop
  | nil {S : List Seal} {G : List Wd} : RunFrom S G [] S G
  | cons {S S' : List Seal} {G G' : List Wd} {d : Deed} {ds : List Deed} {x : Seal} : d.Fit → stepP S G d = .ok x → RunFrom (S ++ [x]) (hallG G d) ds S' G' → RunFrom S G (d :: ds) S' G'
theorem RunFrom.snoc {S S' : List Seal} {G G' : List Wd} {d : Deed} {ds : List Deed} {x : Seal} (h : RunFrom S G ds S' G') (hd : d.Fit) (hx : stepP S' G' d = .ok x) : RunFrom S G (ds ++ [d]) (S' ++ [x]) (hallG G' d) := by
  induction h with
  | nil => exact .cons hd hx .nil
  | cons h1 h2 _ ih => exact .cons h1 h2 (ih hx)
theorem Run.from {ds : List Deed} {S : List Seal} {G : List Wd} (h : Run ds S G) : RunFrom [] [] ds S G := by
  induction h with
  | nil => exact .nil
  | snoc _ hd hx ih => exact ih.snoc hd hx
end PL

namespace PL
open PySem PySem.Spec PyProof.Rows L2
open Wd
end PL

namespace PL
open PySem PySem.Spec PyProof.Rows L2
open Wd
/-! ### a wide form -/
/-! ### a deed that is refused -/
end PL

namespace PL
open PySem PySem.Spec PyProof.Rows L2
open Wd
/-! ### single steps of a derivation -/
/-- what may be said in a derivation -/
structure Pc (w : Wd) : Prop where
  ok : Ok w
  fm : Fm w
  lay : w.lay ≤ 28
  kn : kn w ≤ 140
  nst : nst w ≤ 6
def Fw (w : Wd) : Prop := FW w ∧ nst w ≤ 6
theorem Pc.iff {a b : Wd} (ha : Pc a) (hb : Pc b) : Fw (.iff a b) := ⟨⟨Ok.iff ha.ok hb.ok, .iff ha.fm hb.fm, by have := ha.lay; have := hb.lay; simp [Wd.lay]; omega, by have := ha.kn; have := hb.kn; simp [PL.kn]; omega⟩, by have := ha.nst; have := hb.nst; simp [PL.nst]; omega⟩
/-! ### runs of steps -/
theorem RunFrom.append {S S1 S2 : List Seal} {G G1 G2 : List Wd} {l1 l2 : List Deed} (h1 : RunFrom S G l1 S1 G1) (h2 : RunFrom S1 G1 l2 S2 G2) : RunFrom S G (l1 ++ l2) S2 G2 := by
  induction h1 with
  | nil => exact h2
  | cons a b _ ih => exact .cons a b (ih h2)
theorem sealG_new {S : List Seal} {x : Seal} : sealG (S ++ [x]) (S.length : Int) = some x := by rw [sealG_app, if_pos rfl]
/-- the state behind a part of a derivation: its last seal -/
structure Der (S : List Seal) (G : List Wd) (l : List Deed) (S' : List Seal) (s : Seal) (U : List Wd) (w : Wd) : Prop where
  run : RunFrom S G l S' G
  hall : HallOk S' G
  len : S'.length = S.length + l.length
  pre : ∃ T, S' = S ++ T
  last : sealG S' ((S.length : Int) + (l.length : Int) - 1) = some s
  said : s.said = w
  under : ∀ u ∈ s.under, u ∈ U
  bases : s.bases = []
/-- one step more -/
theorem one_more {S S' : List Seal} {G : List Wd} {l : List Deed} {d : Deed} {x : Seal} (hr : RunFrom S G l S' G) (hh : HallOk S' G) (hl : S'.length = S.length + l.length) (hp : ∃ T, S' = S ++ T) (hd : d.Fit) (hx : stepP S' G d = .ok x) (hna : hallG G d = G) (hS : S'.length < 2 ^ 20) (hG : G.length < 31) :
    RunFrom S G (l ++ [d]) (S' ++ [x]) G ∧ HallOk (S' ++ [x]) G ∧ (S' ++ [x]).length = S.length + (l ++ [d]).length ∧ ∃ T, S' ++ [x] = S ++ T := by
  have h1 := hr.snoc hd hx
  have h2 := step_hall hh hd hx hS hG
  rw [hna] at h1 h2
  refine ⟨h1, h2, by rw [List.length_append, List.length_append, List.length_singleton, List.length_singleton]; omega, ?_⟩
  obtain ⟨T, rfl⟩ := hp
  exact ⟨T ++ [x], by rw [List.append_assoc]⟩
end PL

namespace PL
open PySem PySem.Spec PyProof.Rows L2
open Wd
/-! ### what a plan lays down, pure -/
/-- a part of a derivation -/
structure Dv (S : List Seal) (G : List Wd) (l : List Deed) (S' : List Seal) : Prop where
  run : RunFrom S G l S' G
  hall : HallOk S' G
  len : S'.length = S.length + l.length
  pre : ∃ T, S' = S ++ T
theorem Dv.trans {S S1 S2 : List Seal} {G : List Wd} {l1 l2 : List Deed} (h1 : Dv S G l1 S1) (h2 : Dv S1 G l2 S2) : Dv S G (l1 ++ l2) S2 := ⟨h1.run.append h2.run, h2.hall, by rw [h2.len, h1.len, List.length_append]; omega, by
  obtain ⟨T1, rfl⟩ := h1.pre
  obtain ⟨T2, rfl⟩ := h2.pre
  exact ⟨T1 ++ T2, by rw [List.append_assoc]⟩⟩
theorem Dv.snoc {S S' : List Seal} {G : List Wd} {l : List Deed} {d : Deed} {x : Seal} (h : Dv S G l S') (hd : d.Fit) (hx : stepP S' G d = .ok x) (hna : hallG G d = G) (hS : S'.length < 2 ^ 20) (hG : G.length < 31) : Dv S G (l ++ [d]) (S' ++ [x]) := by
  obtain ⟨a, b, c, d⟩ := one_more h.run h.hall h.len h.pre hd hx hna hS hG
  exact ⟨a, b, c, d⟩
theorem Dv.fin {S S' : List Seal} {G : List Wd} {l : List Deed} {d : Deed} {x : Seal} {U : List Wd} {w : Wd} (h : Dv S G l S') (hd : d.Fit) (hx : stepP S' G d = .ok x) (hna : hallG G d = G) (hS : S'.length < 2 ^ 20) (hG : G.length < 31) (h1 : x.said = w) (h2 : ∀ u ∈ x.under, u ∈ U) (h3 : x.bases = []) : Der S G (l ++ [d]) (S' ++ [x]) x U w := by
  have a := h.snoc hd hx hna hS hG
  refine ⟨a.run, a.hall, a.len, a.pre, ?_, h1, h2, h3⟩
  rw [List.length_append, List.length_singleton, show (S.length : Int) + ((l.length + 1 : Nat) : Int) - 1 = (S'.length : Int) by rw [h.len]; omega]
  exact sealG_new
theorem HallOk.at {S : List Seal} {G : List Wd} (h : HallOk S G) {n : Int} {s : Seal} (hs : sealG S n = some s) : SealOk G.length s := h.seals s (sealG_some hs).2.2
end PL

namespace PL
open PySem PySem.Spec PyProof.Rows L2
open Wd
end PL

namespace PL
open PySem PySem.Spec PyProof.Rows L2
open Wd
/-! ### a plan -/
/-! what a deed's pieces make -/
end PL

namespace PL
open PySem PySem.Spec PyProof.Rows L2
open Wd
end PL

namespace PL
open PySem PySem.Spec PyProof.Rows L2
open Wd
/-! ### a hall with any two seals ahead -/
structure Pre2 where
  a : Seal
  b : Seal
  g : Wd
structure Pre2.Ok (P : Pre2) : Prop where
  a : SealOk 1 P.a
  b : SealOk 1 P.b
  g : FW P.g ∧ ((occ P.g 0).any fun x => decide (0 ≤ x)) = false
section
variable {P : Pre2}
theorem RunFrom.glen {S S' : List Seal} {G G' : List Wd} {l : List Deed} (h : RunFrom S G l S' G') : G.length ≤ G'.length := by
  induction h with
  | nil => exact Nat.le_refl _
  | @cons S S' G G' d ds x _ _ _ ih => exact Nat.le_trans (by cases d <;> simp [hallG]) ih
variable (hP : P.Ok)
include hP
end
end PL

namespace PL
open PySem PySem.Spec PyProof.Rows L2
open Wd
/-! ### derived -/
/-! ### numbers given, ahead of two seals -/
end PL

namespace PL
open PySem PySem.Spec PyProof.Rows L2
open Wd
/-! ### forms of few atoms -/
inductive Bt (A : List Wd) : Wd → Prop
  | no : Bt A .no
  | atm {w : Wd} : w ∈ A → w.isIff = false → w.isNo = false → Bt A w
  | iff {a b : Wd} : Bt A a → Bt A b → Bt A (.iff a b)
end PL

namespace PL
open PySem PySem.Spec PyProof.Rows L2
open Wd
/-- small parts -/
structure Sp (A : List Wd) (k l : Nat) (w : Wd) : Prop where
  bt : Bt A w
  ok : Ok w
  fm : Fm w
  kn : kn w ≤ k
  lay : w.lay ≤ l
  nst : nst w ≤ 1
theorem Sp.iff {A : List Wd} {k l k' l' : Nat} {a b : Wd} (ha : Sp A k l a) (hb : Sp A k' l' b) : Sp A (k + k' + 1) (max l l' + 1) (.iff a b) :=
  ⟨.iff ha.bt hb.bt, Ok.iff ha.ok hb.ok, .iff ha.fm hb.fm, by have := ha.kn; have := hb.kn; rw [PL.kn]; omega, by have := ha.lay; have := hb.lay; rw [Wd.lay]; omega, by have := ha.nst; have := hb.nst; rw [PL.nst]; omega⟩
end PL

namespace PL
open PySem PySem.Spec PyProof.Rows L2
open Wd
/-! ### alls -/
/-! ### what is told -/
/-! ### the seals behind -/
end PL

namespace PL
open PySem PySem.Spec PyProof.Rows L2
open Wd
/-! ### a row of deeds, walked by the law's own rules -/
end PL

namespace PL
open PySem PySem.Spec PyProof.Rows L2
open Wd
/-! ### what is laid down is of four words -/
end PL

namespace PL
open PySem PySem.Spec PyProof.Rows L2
open Wd
/-! ### the law's own functions (whole derived) -/
/-! ### refused -/
/-! ### forms drawn -/
structure Sq (k l : Nat) (w : Wd) : Prop where
  ok : Ok w
  fm : Fm w
  kn : PL.kn w ≤ k
  lay : w.lay ≤ l
  nst : PL.nst w ≤ 1
theorem Sq.iff {k l k' l' : Nat} {a b : Wd} (ha : Sq k l a) (hb : Sq k' l' b) : Sq (k + k' + 1) (max l l' + 1) (.iff a b) :=
  ⟨Ok.iff ha.ok hb.ok, .iff ha.fm hb.fm, by have := ha.kn; have := hb.kn; rw [PL.kn]; omega, by have := ha.lay; have := hb.lay; rw [Wd.lay]; omega, by have := ha.nst; have := hb.nst; rw [PL.nst]; omega⟩
theorem Sq.mono {k l k' l' : Nat} {w : Wd} (h : Sq k l w) (hk : k ≤ k') (hl : l ≤ l') : Sq k' l' w := ⟨h.ok, h.fm, by have := h.kn; omega, by have := h.lay; omega, h.nst⟩
end PL

namespace PL
open PySem PySem.Spec PyProof.Rows L2
open Wd
/-! ### texts, as lists of signs -/
def tx (l : List Nat) : PyData := .str ⟨l.toArray⟩
def Asc (l : List Nat) : Prop := ∀ c ∈ l, c < 1000
theorem Asc.drop {l : List Nat} (h : Asc l) (k : Nat) : Asc (l.drop k) := fun c hc => h c (List.mem_of_mem_drop hc)
theorem Asc.take {l : List Nat} (h : Asc l) (k : Nat) : Asc (l.take k) := fun c hc => h c (List.mem_of_mem_take hc)
theorem Asc.app {a b : List Nat} (h : Asc a) (h2 : Asc b) : Asc (a ++ b) := fun c hc => (List.mem_append.mp hc).elim (h c) (h2 c)
/-! ### what is read, pure -/
end PL

namespace PL
open PySem PySem.Spec PyProof.Rows L2
open Wd
/-! ### a reader -/
/-! ### runs -/
/-! ### the small methods -/
end PL

namespace PL
open PySem PySem.Spec PyProof.Rows L2
open Wd
end PL

namespace PL
open PySem PySem.Spec PyProof.Rows L2
open Wd
end PL

namespace PL
open PySem PySem.Spec PyProof.Rows L2
open Wd
end PL

namespace PL
open PySem PySem.Spec PyProof.Rows L2
open Wd
/-! ### how a word is written -/
mutual
def txtT : Wd → List Nat
  | .var n => 35 :: TL.numL n.toNat
  | .fn x ps => x.cps.toList ++ 40 :: (joT true ps ++ [41])
  | _ => []
def joT : Bool → List Wd → List Nat
  | _, [] => []
  | b, t :: ts => (if b = true then [] else [32]) ++ (txtT t ++ joT false ts)
end
def txtF : Wd → List Nat
  | .no => [33]
  | .rel x ps => x.cps.toList ++ 91 :: (joT true ps ++ [93])
  | .same a b => 40 :: (txtT a ++ ([32, 61, 32] ++ (txtT b ++ [41])))
  | .iff a b => 40 :: (txtF a ++ ([32, 62, 32] ++ (txtF b ++ [41])))
  | .all a => 42 :: txtF a
  | _ => []
theorem joT_len {M : Nat} : ∀ {ps : List Wd} {b : Bool}, (∀ p ∈ ps, (txtT p).length + 1 ≤ M) → (joT b ps).length ≤ ps.length * M
  | [], b, _ => by simp [joT]
  | t :: ts, b, h => by
    have h1 := h t (.head _)
    have h2 := joT_len (ps := ts) (b := false) fun p hp => h p (.tail _ hp)
    rw [joT, List.length_append, List.length_append, List.length_cons, Nat.succ_mul]
    have : (if b = true then ([] : List Nat) else [32]).length ≤ 1 := by cases b <;> simp
    omega
theorem joT_all {Q : Nat → Prop} (h32 : Q 32) : ∀ {ps : List Wd} {b : Bool}, (∀ p ∈ ps, ∀ c ∈ txtT p, Q c) → ∀ c ∈ joT b ps, Q c
  | [], b, _, c, hc => by simp [joT] at hc
  | t :: ts, b, h, c, hc => by
    rw [joT, List.mem_append, List.mem_append] at hc
    rcases hc with hc | hc | hc
    · cases b
      · simp at hc; subst hc; exact h32
      · simp at hc
    · exact h t (.head _) c hc
    · exact joT_all h32 (ps := ts) (fun p hp => h p (.tail _ hp)) c hc
theorem Nm.len {x : Str} (h : Nm x) : 1 ≤ x.cps.toList.length ∧ x.cps.toList.length ≤ 12 := by
  have e : x.length = x.cps.toList.length := by simp [Str.length]
  exact ⟨e ▸ h.pos, e ▸ h.le⟩
theorem TmOk.len {d : Nat} {w : Wd} (h : TmOk Nm d w) : (txtT w).length + 9 ≤ 13 * 3 ^ d := by
  induction h with
  | @var d n h0 h1 =>
    have hl : (TL.numL n.toNat).length ≤ 3 := TL.numL_len (by decide) (by omega)
    have hp : 1 ≤ 3 ^ d := Nat.one_le_pow _ _ (by decide)
    rw [txtT, List.length_cons]
    omega
  | @fn d x ps hx hl _ ih =>
    have h1 := joT_len (b := true) (M := 13 * 3 ^ d - 8) fun p hp => by have := ih p hp; omega
    have h2 := hx.len.2
    have hp : 1 ≤ 3 ^ d := Nat.one_le_pow _ _ (by decide)
    have h3 : ps.length * (13 * 3 ^ d - 8) ≤ 3 * (13 * 3 ^ d - 8) := Nat.mul_le_mul_right _ hl
    rw [txtT, List.length_append, List.length_cons, List.length_append, Nat.pow_succ]
    simp only [List.length_cons, List.length_nil]
    omega
theorem TmOk.signs {d : Nat} {w : Wd} (h : TmOk Nm d w) : ∀ c ∈ txtT w, c < 128 := by
  induction h with
  | @var d n h0 h1 =>
    intro c hc
    rw [txtT, List.mem_cons] at hc
    rcases hc with rfl | hc
    · decide
    · have := TL.numL_digits n.toNat c hc; omega
  | @fn d x ps hx hl _ ih =>
    intro c hc
    rw [txtT, List.mem_append, List.mem_cons, List.mem_append] at hc
    rcases hc with hc | rfl | hc | hc
    · have := hx.low c hc; omega
    · decide
    · exact joT_all (Q := fun c => c < 128) (by decide) ih c hc
    · simp at hc; omega
theorem FmOk.len {d : Nat} {w : Wd} (h : FmOk Nm d w) : (txtF w).length + 5 ≤ 346 * 2 ^ d := by
  induction h with
  | @no d =>
    have hp : 1 ≤ 2 ^ d := Nat.one_le_pow _ _ (by decide)
    simp only [txtF, List.length_cons, List.length_nil]; omega
  | @same d a b ha hb =>
    have hp : 1 ≤ 2 ^ d := Nat.one_le_pow _ _ (by decide)
    have h1 := ha.len
    have h2 := hb.len
    simp only [txtF, List.length_cons, List.length_nil, List.length_append]; omega
  | @rel d x ps hx hl hps =>
    have hp : 1 ≤ 2 ^ d := Nat.one_le_pow _ _ (by decide)
    have h1 := joT_len (b := true) (M := 109) fun p hp => by have := (hps p hp).len; omega
    have h2 := hx.len.2
    simp only [txtF, List.length_cons, List.length_nil, List.length_append]; omega
  | @iff d a b _ _ h1 h2 => rw [Nat.pow_succ]; simp only [txtF, List.length_cons, List.length_nil, List.length_append]; omega
  | @all d a _ h1 => rw [Nat.pow_succ]; simp only [txtF, List.length_cons, List.length_nil, List.length_append]; omega
theorem FmOk.signs {d : Nat} {w : Wd} (h : FmOk Nm d w) : ∀ c ∈ txtF w, c < 128 := by
  induction h with
  | no => intro c hc; simp [txtF] at hc; omega
  | same ha hb =>
    intro c hc
    simp only [txtF, List.mem_cons, List.mem_append, List.not_mem_nil, or_false] at hc
    rcases hc with rfl | hc | (rfl | rfl | rfl) | hc | rfl
    · decide
    · exact ha.signs c hc
    · decide
    · decide
    · decide
    · exact hb.signs c hc
    · decide
  | rel hx hl hps =>
    intro c hc
    simp only [txtF, List.mem_cons, List.mem_append, List.not_mem_nil, or_false] at hc
    rcases hc with hc | rfl | hc | rfl
    · have := hx.low c hc; omega
    · decide
    · exact joT_all (Q := fun c => c < 128) (by decide) (fun p hp => (hps p hp).signs) c hc
    · decide
  | iff _ _ h1 h2 =>
    intro c hc
    simp only [txtF, List.mem_cons, List.mem_append, List.not_mem_nil, or_false] at hc
    rcases hc with rfl | hc | (rfl | rfl | rfl) | hc | rfl
    · decide
    · exact h1 c hc
    · decide
    · decide
    · decide
    · exact h2 c hc
    · decide
  | all _ h1 =>
    intro c hc
    rw [txtF, List.mem_cons] at hc
    rcases hc with rfl | hc
    · decide
    · exact h1 c hc
/-! ### texts made -/
/-! ### the writers -/
end PL

namespace PL
open PySem PySem.Spec PyProof.Rows L2
open Wd
/-! ### what is written is read back -/
/-! ### counts -/
end PL

namespace PL
open PySem PySem.Spec PyProof.Rows L2
open Wd
/-! ### forms -/
end PL

namespace PL
open PySem PySem.Spec PyProof.Rows L2
open Wd
/-! ### the law's own parsers (k13) -/
/-! the parts -/
end PL

namespace PL
open PySem PySem.Spec PyProof.Rows L2
open Wd
end PL

namespace PL
open PySem PySem.Spec PyProof.Rows L2
open Wd
end PL

namespace PL
open PySem PySem.Spec PyProof.Rows L2
open Wd
end PL

namespace PL
open PySem PySem.Spec PyProof.Rows L2
open Wd
/-! ### k13: texts drawn -/
/-! the law's writers -/
/-! signs -/
/-! odd texts -/
end PL

namespace PL
open PySem PySem.Spec PyProof.Rows L2
open Wd
/-! what is parsed is a word of few layers and fair names -/
end PL

namespace PL
open PySem PySem.Spec PyProof.Rows L2
open Wd
/-! ### bounds: what is too large is told, the hall stays -/
/-! the due seal, by the law -/
end PL

namespace PL
open PySem PySem.Spec PyProof.Rows L2
open Wd
/-! ### bounds: a term that is alike itself -/
theorem told_x {S : List Seal} {G : List Wd} {ρ : Rho} {i : Nat} {ms : MXs} {n : Int} {s : Seal} (h : ρ[i]? = some (.o (hallOb S G)) ∨ ρ[i]? = some (.r (hallOb S G))) (hm : ms ρ = .vals [.d (.int n)] ρ) (hs : sealG S n = some s) :
    xMeth "Hall" "told" (.r i) i Hall_told_m ms ρ = .val (toldD s) ρ := by
  rw [meth_r (ds := [.int n]) h (by decide +kernel) (by decide +kernel) hm]
  show (match Hall_told_m [.r (hallOb S G), .d (.int n)] with | .ret d _ => XOut.val d ρ | .ex c _ => .ex c ρ | .stuck => .stuck) = _
  rw [told_fn hs]
/-- a loop that builds a term -/
def TL (n : Nat) (t : Wd) : Prop := Ok t ∧ Tm t ∧ t.lay ≤ n
theorem TL.mono {n m : Nat} {t : Wd} (h : TL n t) (hm : n ≤ m) : TL m t := ⟨h.1, h.2.1, by have := h.2.2; omega⟩
end PL

namespace PL
open PySem PySem.Spec PyProof.Rows L2
open Wd
/-! ### bounds: two seals of many assumptions, met -/
def cndW (x : Str) : Wd := .rel x []
section
variable {x : Str} (hx : Nm x)
include hx
theorem ok_rel {ts : List Wd} (h : ∀ t ∈ ts, Ok t) : Ok (.rel x ts) := fun y hy => by
  rw [names] at hy
  rcases List.mem_cons.mp hy with rfl | hy
  · exact hx.ok
  · exact namess_all (P := fun y => PyData.strOk y = true) h y hy
omit hx in
theorem ok_var (n : Int) : Ok (.var n) := fun y hy => by rw [names] at hy; cases hy
theorem fw_cnd : FW (cndW x) := ⟨ok_rel hx (by simp), .rel (by simp), by simp [cndW, lay, lays], by simp [cndW, kn, kns]⟩
theorem fw_r1 {k : Int} (h : 0 ≤ k) : FW (.rel x [.var k]) := ⟨ok_rel hx (by simp [ok_var]), .rel (by simp; exact .var h), by simp [lay, lays], by simp [kn, kns]⟩
end
end PL

namespace PL
open PySem PySem.Spec PyProof.Rows L2
open Wd
/-! ### keys -/
def numK (row : List Int) : NestedKey := .tup (row.map .num)
def kF (x : Str) (row : List Int) : NestedKey := .tup [.text "fun", .text x, numK row]
def kR (x : Str) (row : List Int) : NestedKey := .tup [.text "rel", .text x, numK row]
def kW (x : Str) (row : List Int) : NestedKey := .tup [.text x, numK row]
/-! ### storing -/
/-! ### what names mean -/
abbrev FunT := Str → List Int → Int
abbrev RelT := Str → List Int → Bool
structure LawRep (L : List (NestedKey × PyData)) (F : FunT) (R : RelT) : Prop where
  f : ∀ x row, (lookK L (kF x row)).getD (.int 0) = .int (F x row)
  r : ∀ x row, ∃ n : Int, (lookK L (kR x row)).getD (.int 0) = .int n ∧ decide (n = 1) = R x row
structure WldRep (M T : List (NestedKey × PyData)) (F : FunT) (R : RelT) : Prop where
  f : ∀ x row, (lookK M (kW x row)).getD (.int 0) = .int (F x row)
  r : ∀ x row, (lookK T (kW x row)).getD (.bool false) = .bool (R x row)
theorem LawRep.nil : LawRep [] (fun _ _ => 0) (fun _ _ => false) := ⟨fun _ _ => rfl, fun _ _ => ⟨0, rfl, rfl⟩⟩
theorem WldRep.nil : WldRep [] [] (fun _ _ => 0) (fun _ _ => false) := ⟨fun _ _ => rfl, fun _ _ => rfl⟩
/-! ### the law's own reckoning -/
end PL

namespace PL
open PySem PySem.Spec PyProof.Rows L2
open Wd
/-! ### a world -/
/-! means, so -/
/-! what a term means, whether a form holds -/
end PL

namespace PL
open PySem PySem.Spec PyProof.Rows L2
open Wd
/-! ### refusals -/
end PL

namespace PL
open PySem PySem.Spec PyProof.Rows L2
open Wd
/-! ### spread names -/
/-! ### asked, and refused -/
end PL

namespace PL
open PySem PySem.Spec PyProof.Rows L2
open Wd
/-! ### k11: what the law keeps of a hall -/
def rowD (s : Seal) : PyData := .tuple [intsD s.given, intsD s.bases]
def rowsL (S : List Seal) : List PyData := S.map rowD
theorem rowsL_len (S : List Seal) : (rowsL S).length = S.length := by rw [rowsL, List.length_map]
theorem rowsL_ix {S : List Seal} {n : Int} {s : Seal} (h : sealG S n = some s) : ixM (.list (rowsL S)) (.int n) = some (rowD s) := by
  obtain ⟨h1, h2, _⟩ := sealG_some h
  have hg : (rowsL S)[n.toNat]? = some (rowD s) := by rw [rowsL, List.getElem?_map, h2]; rfl
  have e := atI_nat hg
  rw [show ((n.toNat : Nat) : Int) = n by omega] at e
  exact e
theorem rowD_0 (s : Seal) : ixM (rowD s) (.int 0) = some (intsD s.given) := rfl
theorem rowD_1 (s : Seal) : ixM (rowD s) (.int 1) = some (intsD s.bases) := rfl
theorem rowsL_app (S : List Seal) (s : Seal) : rowsL S ++ [rowD s] = rowsL (S ++ [s]) := by unfold rowsL; rw [List.map_append]; rfl
theorem stoodl_fn {S : List Seal} (hg : GivOk S) (hS : S.length ≤ 60) {n : Int} (hn : 0 ≤ n ∧ n < (S.length : Int)) :
    ∃ ms : List Int, stood_l_m [.b (rowsL S), .d (.int n)] = .ret (intsD (sortI ms)) [] ∧ ms.Nodup ∧ ∀ k, k ∈ ms ↔ Rch S n k := by
  have key : Ends (whileL (mTest (mBin gtM (mUn lenM (mVA 3)) (mC (.int 0))))
  (sSeq (sPop 4 3)
  (sFor 5 (mIt (mBin ixM (mBin ixM (mVA 0) (mV 4)) (mC (.int 0))))
  (sIf (mTest (mBin (inM true) (mV 5) (mVA 2)))
  (sSeq (sApp 2 (mV 5))
  (sApp 3 (mV 5)))
  sSkip))) 100) [.b (rowsL S), .d (.int n), .o (.lst (([n] : List Int).map .int)), .o (.lst (([n] : List Int).map .int)), .nil, .nil] fun o => ∃ ρ, o = .nx ρ ∧ ∃ (met : List Int) (s4 s5 : Sl), met.Nodup ∧ (∀ k, k ∈ met ↔ Rch S n k) ∧ ρ = [.b (rowsL S), .d (.int n), .o (.lst (met.map .int)), .o (.lst []), s4, s5] := by
    refine Ends.whl (fun m ρ => ∃ (met left : List Int) (s4 s5 : Sl), isO (some s4) = false ∧ isO (some s5) = false ∧ ρ = [.b (rowsL S), .d (.int n), .o (.lst (met.map .int)), .o (.lst (left.map .int)), s4, s5] ∧ met.Nodup ∧ (∀ k ∈ met, Rch S n k) ∧ n ∈ met ∧ (∀ k ∈ left, k ∈ met) ∧ (∀ k ∈ met, k ∉ left → ∀ g ∈ gvn S k, g ∈ met) ∧ left.length ≤ met.length ∧ m = (S.length - met.length) + left.length) ?_ 100 ((S.length - 1) + 1) _ (by omega)
      ⟨[n], [n], .nil, .nil, rfl, rfl, rfl, by simp, fun k hk => by rw [List.mem_singleton.mp hk]; exact .base, by simp, fun k hk => hk, fun k h1 h2 => absurd h1 h2, by simp, by simp⟩
    rintro m ρ ⟨met, left, s4, s5, h4, h5, rfl, hnod, hr, hnm, hl, hc, hlm, rfl⟩
    have hlen : lenM (.list (left.map PyData.int)) = some (.int (left.length : Int)) := by simp only [lenM, List.length_map]
    have hbd : ∀ k, Rch S n k → 0 ≤ k ∧ k < (S.length : Int) := fun k hk => by have := hk.le hg hn.1; omega
    have ht : mTest (mBin gtM (mUn lenM (mVA 3)) (mC (.int 0))) [.b (rowsL S), .d (.int n), .o (.lst (met.map .int)), .o (.lst (left.map .int)), s4, s5] = some (decide ((0 : Int) < (left.length : Int))) := by simp only [runF, sSeq, sIf, sRet, sAsg, sNew, sApp, sSkip_ap, sFor, sForZ, mCall, mCons, mNil, mV, mVA, mC, mBin, mUn, mTest, mAndT, mOrT, mNotT, mAnd, mOr, mNot, mBl, bl?, mIf, mTup, mLst, mSl, mSome, mNo, mComp, mIt, mItB, mR1, mR2, mR1c, mZ, mZB, mYes, mkArgs, outs, itemsOf, isO, listM, tupleM, intM, subM_i, ltM_i, leM_i, gtM_i, geM_i, addM, Option.bind_some, Option.bind_none, Option.map_some, Option.map_none, List.length_cons, List.length_nil, List.getElem?_cons_zero, List.getElem?_cons_succ, List.set_cons_zero, List.set_cons_succ, List.cons_append, List.nil_append, List.append_nil, List.replicate, if_true, if_false, Nat.reduceAdd, Nat.reduceSub, Nat.reduceLeDiff, Nat.reduceEqDiff, reduceIte, Bool.false_eq_true, reduceCtorEq, Bool.not_true, Bool.not_false, decide_true, decide_false, id, hlen]
    rcases List.eq_nil_or_concat left with rfl | ⟨ls, x, rfl⟩
    · refine .inl ⟨ht, _, rfl, met, s4, s5, hnod, fun k => ⟨hr k, fun h => h.closed hnm fun k hk => hc k hk (by simp)⟩, rfl⟩
    · refine .inr ⟨by rw [ht]; simp, ?_⟩
      have hxm : x ∈ met := hl x (by simp)
      have hx := hbd x (hr x hxm)
      obtain ⟨s, hs⟩ := seal_there hx
      have hgx : gvn S x = s.given := by rw [gvn, hs]
      have hix := rowsL_ix hs
      have hpop : sPop 4 3 [.b (rowsL S), .d (.int n), .o (.lst (met.map .int)), .o (.lst ((ls.concat x).map .int)), s4, s5] = .nx [.b (rowsL S), .d (.int n), .o (.lst (met.map .int)), .o (.lst (ls.map .int)), .d (.int x), s5] := by
        unfold sPop
        simp only [List.getElem?_cons_succ, List.getElem?_cons_zero, List.concat_eq_append, List.map_append, List.map_cons, List.map_nil, List.getLast?_concat, List.dropLast_concat, List.set_cons_succ, List.set_cons_zero]
        cases s4 <;> first | rfl | cases h4
      refine Ends.nx hpop ?_
      have hsrc : mIt (mBin ixM (mBin ixM (mVA 0) (mV 4)) (mC (.int 0))) [.b (rowsL S), .d (.int n), .o (.lst (met.map .int)), .o (.lst (ls.map .int)), .d (.int x), s5] = some (s.given.map .int) := by
        simp only [runF, sSeq, sIf, sRet, sAsg, sNew, sApp, sSkip_ap, sFor, sForZ, mCall, mCons, mNil, mV, mVA, mC, mBin, mUn, mTest, mAndT, mOrT, mNotT, mAnd, mOr, mNot, mBl, bl?, mIf, mTup, mLst, mSl, mSome, mNo, mComp, mIt, mItB, mR1, mR2, mR1c, mZ, mZB, mYes, mkArgs, outs, itemsOf, isO, listM, tupleM, lenM, intM, subM_i, ltM_i, leM_i, gtM_i, geM_i, addM, Option.bind_some, Option.bind_none, Option.map_some, Option.map_none, List.length_cons, List.length_nil, List.getElem?_cons_zero, List.getElem?_cons_succ, List.set_cons_zero, List.set_cons_succ, List.cons_append, List.nil_append, List.append_nil, List.replicate, if_true, if_false, Nat.reduceAdd, Nat.reduceSub, Nat.reduceLeDiff, Nat.reduceEqDiff, reduceIte, Bool.false_eq_true, reduceCtorEq, Bool.not_true, Bool.not_false, decide_true, decide_false, id, hix, rowD_0]
        rfl
      refine Ends.forG (g := PyData.int) (all := s.given) (fun vs ρ => ∃ (new : List Int) (s5 : Sl), isO (some s5) = false ∧ ρ = [.b (rowsL S), .d (.int n), .o (.lst ((met ++ new).map .int)), .o (.lst ((ls ++ new).map .int)), .d (.int x), s5] ∧ (met ++ new).Nodup ∧ (∀ k ∈ new, Rch S n k) ∧ ∀ g ∈ vs, g ∈ met ++ new) hsrc ⟨[], s5, h5, by simp, by simpa using hnod, by simp, by simp⟩ ?_ ?_
      · rintro vs g us ρ evs ⟨new, s5, h5, rfl, hnod2, hr2, hv⟩
        have hgm : g ∈ s.given := by rw [← evs]; simp
        have hrg : Rch S n g := .step (hr x hxm) (by rw [hgx]; exact hgm)
        refine ⟨h5, ?_⟩
        have hin := inM_intsN g (met ++ new)
        have hln : (met ++ new).length ≤ S.length := nod_len hnod2 fun k hk => by
          rcases List.mem_append.mp hk with h | h
          · exact hbd k (hr k h)
          · exact hbd k (hr2 k h)
        have htest : mTest (mBin (inM true) (mV 5) (mVA 2)) [.b (rowsL S), .d (.int n), .o (.lst ((met ++ new).map .int)), .o (.lst ((ls ++ new).map .int)), .d (.int x), .d (.int g)] = some (!decide (g ∈ met ++ new)) := by
          have hin : inM true (.int g) (.list ((met ++ new).map .int)) = some (.bool (!decide (g ∈ met ++ new))) := hin
          simp only [runF, sSeq, sIf, sRet, sAsg, sNew, sApp, sSkip_ap, sFor, sForZ, mCall, mCons, mNil, mV, mVA, mC, mBin, mUn, mTest, mAndT, mOrT, mNotT, mAnd, mOr, mNot, mBl, bl?, mIf, mTup, mLst, mSl, mSome, mNo, mComp, mIt, mItB, mR1, mR2, mR1c, mZ, mZB, mYes, mkArgs, outs, itemsOf, isO, listM, tupleM, lenM, intM, subM_i, ltM_i, leM_i, gtM_i, geM_i, addM, Option.bind_some, Option.bind_none, Option.map_some, Option.map_none, List.length_cons, List.length_nil, List.getElem?_cons_zero, List.getElem?_cons_succ, List.set_cons_zero, List.set_cons_succ, List.cons_append, List.nil_append, List.append_nil, List.replicate, if_true, if_false, Nat.reduceAdd, Nat.reduceSub, Nat.reduceLeDiff, Nat.reduceEqDiff, reduceIte, Bool.false_eq_true, reduceCtorEq, Bool.not_true, Bool.not_false, decide_true, decide_false, id, hin]
        by_cases hm : g ∈ met ++ new
        · refine Ends.ite htest (fun z => ?_) (fun _ => ?_)
          · rw [decide_eq_true hm] at z; cases z
          · refine Ends.skip ⟨_, rfl, new, _, rfl, rfl, hnod2, hr2, fun y hy => ?_⟩
            rcases List.mem_append.mp hy with h | h
            · exact hv y h
            · rw [List.mem_singleton.mp h]; exact hm
        · refine Ends.ite htest (fun _ => ?_) (fun z => ?_)
          · have hl1 : (met ++ new).length ≤ 60 := by omega
            have hl2 : (ls ++ new).length ≤ 60 := by
              rw [List.concat_eq_append, List.length_append, List.length_singleton] at hlm
              rw [List.length_append] at hl1 ⊢
              omega
            have hz1 : ((met ++ new).map PyData.int).length < sizeLine := by rw [List.length_map, sizeLine_eq]; omega
            have hz2 : ((ls ++ new).map PyData.int).length < sizeLine := by rw [List.length_map, sizeLine_eq]; omega
            refine Ends.last (o := .nx [.b (rowsL S), .d (.int n), .o (.lst ((met ++ (new ++ [g])).map .int)), .o (.lst ((ls ++ (new ++ [g])).map .int)), .d (.int x), .d (.int g)]) ?_ ⟨_, rfl, new ++ [g], _, rfl, rfl, ?_, ?_, ?_⟩
            · unfold sSeq sApp
              simp only [List.getElem?_cons_succ, List.getElem?_cons_zero, mV, List.set_cons_succ, List.set_cons_zero]
              rw [if_pos hz1]
              simp only [List.getElem?_cons_succ, List.getElem?_cons_zero, List.set_cons_succ, List.set_cons_zero]
              rw [if_pos hz2]
              simp only [List.map_append, List.append_assoc, List.map_cons, List.map_nil]
            · rw [← List.append_assoc]
              refine List.nodup_append.mpr ⟨hnod2, by simp, fun a ha b hb => ?_⟩
              rw [List.mem_singleton.mp hb]
              exact fun e => hm (by rw [← e]; exact ha)
            · intro k hk
              rcases List.mem_append.mp hk with h | h
              · exact hr2 k h
              · rw [List.mem_singleton.mp h]; exact hrg
            · intro y hy
              rw [← List.append_assoc]
              rcases List.mem_append.mp hy with h | h
              · exact List.mem_append.mpr (.inl (hv y h))
              · exact List.mem_append.mpr (.inr h)
          · rw [decide_eq_false hm] at z; cases z
      · rintro ρ ⟨new, s5, h5, rfl, hnod2, hr2, hv⟩
        have hln : (met ++ new).length ≤ S.length := nod_len hnod2 fun k hk => by
          rcases List.mem_append.mp hk with h | h
          · exact hbd k (hr k h)
          · exact hbd k (hr2 k h)
        refine .inl ⟨_, (S.length - (met ++ new).length) + (ls ++ new).length, .inl rfl, ?_, met ++ new, ls ++ new, _, s5, rfl, h5, rfl, hnod2, ?_, List.mem_append.mpr (.inl hnm), ?_, ?_, ?_, rfl⟩
        · rw [List.concat_eq_append, List.length_append (as := ls), List.length_append (as := ls), List.length_singleton]
          rw [List.length_append] at hln ⊢
          omega
        · intro k hk
          rcases List.mem_append.mp hk with h | h
          · exact hr k h
          · exact hr2 k h
        · intro k hk
          rcases List.mem_append.mp hk with h | h
          · exact List.mem_append.mpr (.inl (hl k (by simp [h])))
          · exact List.mem_append.mpr (.inr h)
        · intro k hk hnl g hgk
          have hkn : k ∉ new := fun h => hnl (List.mem_append.mpr (.inr h))
          have hkm : k ∈ met := (List.mem_append.mp hk).resolve_right hkn
          by_cases e : k = x
          · subst e
            exact hv g (by rw [← hgx]; exact hgk)
          · refine List.mem_append.mpr (.inl (hc k hkm (fun h => ?_) g hgk))
            rw [List.concat_eq_append] at h
            rcases List.mem_append.mp h with h | h
            · exact hnl (List.mem_append.mpr (.inl h))
            · exact e (List.mem_singleton.mp h)
        · rw [List.concat_eq_append, List.length_append, List.length_singleton] at hlm
          rw [List.length_append, List.length_append]
          omega
  obtain ⟨ρ, e, met, s4, s5, hnod, hr, rfl⟩ := key
  refine ⟨met, ?_, hnod, hr⟩
  rw [stood_l_m]
  refine fn_ret rfl (by simp [isO]) ?_
  refine Ends.nx (ρ' := [.b (rowsL S), .d (.int n), .o (.lst (([n] : List Int).map .int)), .nil, .nil, .nil]) (by simp only [runF, sSeq, sIf, sRet, sAsg, sNew, sApp, sSkip_ap, sFor, sForZ, mCall, mCons, mNil, mV, mVA, mC, mBin, mUn, mTest, mAndT, mOrT, mNotT, mAnd, mOr, mNot, mBl, bl?, mIf, mTup, mLst, mSl, mSome, mNo, mComp, mIt, mItB, mR1, mR2, mR1c, mZ, mZB, mYes, mkArgs, outs, itemsOf, isO, listM, tupleM, lenM, intM, subM_i, ltM_i, leM_i, gtM_i, geM_i, addM, Option.bind_some, Option.bind_none, Option.map_some, Option.map_none, List.length_cons, List.length_nil, List.getElem?_cons_zero, List.getElem?_cons_succ, List.set_cons_zero, List.set_cons_succ, List.cons_append, List.nil_append, List.append_nil, List.replicate, if_true, if_false, Nat.reduceAdd, Nat.reduceSub, Nat.reduceLeDiff, Nat.reduceEqDiff, reduceIte, Bool.false_eq_true, reduceCtorEq, Bool.not_true, Bool.not_false, decide_true, decide_false, id]; rfl) ?_
  refine Ends.nx (ρ' := [.b (rowsL S), .d (.int n), .o (.lst (([n] : List Int).map .int)), .o (.lst (([n] : List Int).map .int)), .nil, .nil]) (by simp only [runF, sSeq, sIf, sRet, sAsg, sNew, sApp, sSkip_ap, sFor, sForZ, mCall, mCons, mNil, mV, mVA, mC, mBin, mUn, mTest, mAndT, mOrT, mNotT, mAnd, mOr, mNot, mBl, bl?, mIf, mTup, mLst, mSl, mSome, mNo, mComp, mIt, mItB, mR1, mR2, mR1c, mZ, mZB, mYes, mkArgs, outs, itemsOf, isO, listM, tupleM, lenM, intM, subM_i, ltM_i, leM_i, gtM_i, geM_i, addM, Option.bind_some, Option.bind_none, Option.map_some, Option.map_none, List.length_cons, List.length_nil, List.getElem?_cons_zero, List.getElem?_cons_succ, List.set_cons_zero, List.set_cons_succ, List.cons_append, List.nil_append, List.append_nil, List.replicate, if_true, if_false, Nat.reduceAdd, Nat.reduceSub, Nat.reduceLeDiff, Nat.reduceEqDiff, reduceIte, Bool.false_eq_true, reduceCtorEq, Bool.not_true, Bool.not_false, decide_true, decide_false, id]; rfl) ?_
  refine Ends.nx e ?_
  have hs := sortedM_ints met
  have hs : sortedM (.list (met.map .int)) = some (intsD (sortI met)) := hs
  exact Ends.ret (by simp only [runF, sSeq, sIf, sRet, sAsg, sNew, sApp, sSkip_ap, sFor, sForZ, mCall, mCons, mNil, mV, mVA, mC, mBin, mUn, mTest, mAndT, mOrT, mNotT, mAnd, mOr, mNot, mBl, bl?, mIf, mTup, mLst, mSl, mSome, mNo, mComp, mIt, mItB, mR1, mR2, mR1c, mZ, mZB, mYes, mkArgs, outs, itemsOf, isO, listM, tupleM, lenM, intM, subM_i, ltM_i, leM_i, gtM_i, geM_i, addM, Option.bind_some, Option.bind_none, Option.map_some, Option.map_none, List.length_cons, List.length_nil, List.getElem?_cons_zero, List.getElem?_cons_succ, List.set_cons_zero, List.set_cons_succ, List.cons_append, List.nil_append, List.append_nil, List.replicate, if_true, if_false, Nat.reduceAdd, Nat.reduceSub, Nat.reduceLeDiff, Nat.reduceEqDiff, reduceIte, Bool.false_eq_true, reduceCtorEq, Bool.not_true, Bool.not_false, decide_true, decide_false, id, hs]) ⟨_, rfl⟩
/-- both ways -/
theorem stands_rows {S : List Seal} {G : List Wd} (hg : GivOk S) (hS : S.length ≤ 60) {n : Int} (hn : 0 ≤ n ∧ n < (S.length : Int)) :
    ∃ xs : List Int, Hall_stood_m [.r (hallOb S G), .d (.int n)] = .ret (intsD xs) [] ∧ stood_l_m [.b (rowsL S), .d (.int n)] = .ret (intsD xs) [] ∧ xs.length ≤ 60 := by
  obtain ⟨ms, e1, n1, r1⟩ := stoodl_fn hg hS hn
  obtain ⟨ks, e2, n2, r2⟩ := stood_fn (G := G) hg (by omega) hn
  rw [sortI_same n1 n2 fun k => (r1 k).trans (r2 k).symm] at e1
  refine ⟨_, e2, e1, ?_⟩
  rw [(sortI_perm ks).length_eq]
  have := nod_len (m := S.length) n2 fun k hk => by have := ((r2 k).mp hk).le hg hn.1; omega
  omega
theorem rows_likeB {ds : List PyData} (h : ∀ d ∈ ds, Lk 140 d) : rows_like_b_l_m [.b ds, .b ds] = .ret (.bool true) [] := by
  have key := forZ_same (i := 2) (j := 3) (body := sIf (mNotT (mTest (mCall [true, true] (like_l_m 140) (mCons (mV 2) (mCons (mV 3) mNil))))) (sRet (mC (.bool false))) sSkip)
    (fun ρ => ∃ a b, ρ = [.b ds, .b ds, a, b] ∧ isO (some a) = false ∧ isO (some b) = false) ds [.b ds, .b ds, .nil, .nil] ⟨_, _, rfl, rfl, rfl⟩ (by
      rintro d hd' ρ ⟨a, b, rfl, ha, hb⟩
      refine ⟨by simp [ha, hb], [.b ds, .b ds, .d d, .d d], ?_, _, _, rfl, rfl, rfl⟩
      simp only [runF, sSeq, sIf, sRet, sAsg, sNew, sApp, sSkip_ap, sFor, sForZ, mCall, mCons, mNil, mV, mVA, mC, mBin, mUn, mTest, mAndT, mOrT, mNotT, mAnd, mOr, mNot, mBl, bl?, mIf, mTup, mLst, mSl, mSome, mNo, mComp, mIt, mItB, mR1, mR2, mR1c, mZ, mZB, mYes, mkArgs, outs, itemsOf, isO, listM, tupleM, lenM, intM, subM_i, ltM_i, leM_i, gtM_i, geM_i, addM, Option.bind_some, Option.bind_none, Option.map_some, Option.map_none, List.length_cons, List.length_nil, List.getElem?_cons_zero, List.getElem?_cons_succ, List.set_cons_zero, List.set_cons_succ, List.cons_append, List.nil_append, List.append_nil, List.replicate, if_true, if_false, Nat.reduceAdd, Nat.reduceSub, Nat.reduceLeDiff, Nat.reduceEqDiff, reduceIte, Bool.false_eq_true, reduceCtorEq, Bool.not_true, Bool.not_false, decide_true, decide_false, id, like_fn 140 d (h d hd')])
  obtain ⟨ρ', e, a, b, rfl, ha, hb⟩ := key
  simp only [rows_like_b_l_m, rows_like_b_l_b, runF, sSeq, sIf, sRet, sAsg, sNew, sApp, sSkip_ap, sFor, sForZ, mCall, mCons, mNil, mV, mVA, mC, mBin, mUn, mTest, mAndT, mOrT, mNotT, mAnd, mOr, mNot, mBl, bl?, mIf, mTup, mLst, mSl, mSome, mNo, mComp, mIt, mItB, mR1, mR2, mR1c, mZ, mZB, mYes, mkArgs, outs, itemsOf, isO, listM, tupleM, lenM, intM, subM_i, ltM_i, leM_i, gtM_i, geM_i, addM, Option.bind_some, Option.bind_none, Option.map_some, Option.map_none, List.length_cons, List.length_nil, List.getElem?_cons_zero, List.getElem?_cons_succ, List.set_cons_zero, List.set_cons_succ, List.cons_append, List.nil_append, List.append_nil, List.replicate, if_true, if_false, Nat.reduceAdd, Nat.reduceSub, Nat.reduceLeDiff, Nat.reduceEqDiff, reduceIte, Bool.false_eq_true, reduceCtorEq, Bool.not_true, Bool.not_false, decide_true, decide_false, id, isi_list, neM_int, and_self, e]
theorem words_likeB {ws : List Wd} (h : ∀ w ∈ ws, FW w) : rows_like_b_l_m [.b (datas ws), .b (datas ws)] = .ret (.bool true) [] := rows_likeB (lk_datas fun w hw => fw_like (h w hw))
theorem ints_likeB (xs : List Int) : rows_like_b_l_m [.b (xs.map .int), .b (xs.map .int)] = .ret (.bool true) [] :=
  rows_likeB fun d hd => by
    obtain ⟨x, _, rfl⟩ := List.mem_map.mp hd
    exact .int
/-! ### numbers that no seal has -/
section
variable {S : List Seal} {G : List Wd}
theorem look_no_x {ρ : Rho} {i k : Nat} {n : Int} (h0 : ρ[i]? = some (.o (hallOb S G)) ∨ ρ[i]? = some (.r (hallOb S G))) (hk : ρ[k]? = some (.d (.int n))) (hs : sealG S n = none) :
    xMeth "Hall" "seal_at" (.r i) i Hall_seal_at_m (xCons (xE (mV k)) xNil) ρ = .ex "NoSeal" ρ := by
  have hm : xCons (xE (mV k)) xNil ρ = .vals ([PyData.int n].map .d) ρ := by unfold xCons xE xNil mV; rw [hk]; rfl
  rw [meth_r h0 (by decide +kernel) (by decide +kernel) hm]
  show (match Hall_seal_at_m [.r (hallOb S G), .d (.int n)] with | .ret d _ => XOut.val d ρ | .ex c _ => .ex c ρ | .stuck => .stuck) = _
  rw [seal_at_no (sealG_none hs)]
theorem told_none {n : Int} (hs : sealG S n = none) : Hall_told_m [.r (hallOb S G), .d (.int n)] = .ex "NoSeal" [] := by
  rw [Hall_told_m]
  refine fn_res rfl ?_
  have e := look_no_x (i := 0) (k := 1) (ρ := [.r (hallOb S G), .d (.int n), .nil]) (.inr rfl) rfl hs
  exact Ends.bad (asgX_ex e) rfl
theorem bases_none {n : Int} (hs : sealG S n = none) : Hall_bases_m [.r (hallOb S G), .d (.int n)] = .ex "NoSeal" [] := by
  rw [Hall_bases_m]
  refine fn_res rfl ?_
  have e := look_no_x (i := 0) (k := 1) (ρ := [.r (hallOb S G), .d (.int n)]) (.inr rfl) rfl hs
  exact .last (o := .ex "NoSeal" [.r (hallOb S G), .d (.int n)]) (by simp only [runF, sSeq, sIf, sRet, sAsg, sNew, sApp, sSkip_ap, sFor, sForZ, mCall, mCons, mNil, mV, mVA, mC, mBin, mUn, mTest, mAndT, mOrT, mNotT, mAnd, mOr, mNot, mBl, bl?, mIf, mTup, mLst, mSl, mSome, mNo, mComp, mIt, mItB, mR1, mR2, mR1c, mZ, mZB, mYes, mkArgs, outs, itemsOf, isO, listM, tupleM, lenM, intM, subM_i, ltM_i, leM_i, gtM_i, geM_i, addM, Option.bind_some, Option.bind_none, Option.map_some, Option.map_none, List.length_cons, List.length_nil, List.getElem?_cons_zero, List.getElem?_cons_succ, List.set_cons_zero, List.set_cons_succ, List.cons_append, List.nil_append, List.append_nil, List.replicate, if_true, if_false, Nat.reduceAdd, Nat.reduceSub, Nat.reduceLeDiff, Nat.reduceEqDiff, reduceIte, Bool.false_eq_true, reduceCtorEq, Bool.not_true, Bool.not_false, decide_true, decide_false, id, xE, xCall, xNil, xCons, xSlot, xTup, xUn, xBin, xOut, xFin, slsOf, slOf, dsOf, putB, xT, xTest, xAndT, xOrT, xNotT, sAsgX, sRetX, sDoX, sIfX, sAppX, sExc, sTry, sHds, noEx, sTryAs, wipeO, mIsE, sFz, sPop, negM, mChain, List.nodup_nil, List.all_nil, Bool.and_true, Bool.true_and, Hall_bases_b, e]) rfl
theorem stood_none {n : Int} (hs : sealG S n = none) : Hall_stood_m [.r (hallOb S G), .d (.int n)] = .ex "NoSeal" [] := by
  rw [Hall_stood_m]
  refine fn_res rfl ?_
  have e := look_no_x (i := 0) (k := 1) (ρ := [.r (hallOb S G), .d (.int n), .nil, .nil, .nil]) (.inr rfl) rfl hs
  have e : sDoX (xMeth "Hall" "seal_at" (.r 0) 0 Hall_seal_at_m (xCons (xE (mV 1)) xNil)) [.r (hallOb S G), .d (.int n), .nil, .nil, .nil] = .ex "NoSeal" [.r (hallOb S G), .d (.int n), .nil, .nil, .nil] := by unfold sDoX; rw [e]
  exact Ends.bad e rfl
theorem no_seal_fn {n : Int} (hs : sealG S n = none) : no_seal_l_m [.r (hallOb S G), .d (.int n)] = .ret (.bool true) [] := by
  rw [no_seal_l_m]
  refine fn_ret rfl (by simp [isO]) ?_
  refine Ends.nx (ρ' := [.r (hallOb S G), .d (.int n), .d (.int 0), .nil, .nil, .nil]) (by simp only [runF, sSeq, sIf, sRet, sAsg, sNew, sApp, sSkip_ap, sFor, sForZ, mCall, mCons, mNil, mV, mVA, mC, mBin, mUn, mTest, mAndT, mOrT, mNotT, mAnd, mOr, mNot, mBl, bl?, mIf, mTup, mLst, mSl, mSome, mNo, mComp, mIt, mItB, mR1, mR2, mR1c, mZ, mZB, mYes, mkArgs, outs, itemsOf, isO, listM, tupleM, lenM, intM, subM_i, ltM_i, leM_i, gtM_i, geM_i, addM, Option.bind_some, Option.bind_none, Option.map_some, Option.map_none, List.length_cons, List.length_nil, List.getElem?_cons_zero, List.getElem?_cons_succ, List.set_cons_zero, List.set_cons_succ, List.cons_append, List.nil_append, List.append_nil, List.replicate, if_true, if_false, Nat.reduceAdd, Nat.reduceSub, Nat.reduceLeDiff, Nat.reduceEqDiff, reduceIte, Bool.false_eq_true, reduceCtorEq, Bool.not_true, Bool.not_false, decide_true, decide_false, id]) ?_
  have c1 : (["NoSeal", "Unfit", "TooLarge", "NoThing", "NoWord"] : List Str).contains "NoSeal" = true := by decide +kernel
  have c2 : subE "NoSeal" "HallError" = true := by decide +kernel
  refine Ends.go (fun ρ => ∃ a b c, ρ = [.r (hallOb S G), .d (.int n), .d (.int 3), a, b, c]) (Ends.forR (lo := 0) (n := 3) (fun j ρ => ∃ a b c, ρ = [.r (hallOb S G), .d (.int n), .d (.int (j : Int)), a, b, c] ∧ isO (some a) = false ∧ isO (some b) = false ∧ isO (some c) = false) (by simp only [runF, sSeq, sIf, sRet, sAsg, sNew, sApp, sSkip_ap, sFor, sForZ, mCall, mCons, mNil, mV, mVA, mC, mBin, mUn, mTest, mAndT, mOrT, mNotT, mAnd, mOr, mNot, mBl, bl?, mIf, mTup, mLst, mSl, mSome, mNo, mComp, mIt, mItB, mR1, mR2, mR1c, mZ, mZB, mYes, mkArgs, outs, itemsOf, isO, listM, tupleM, lenM, intM, subM_i, ltM_i, leM_i, gtM_i, geM_i, addM, Option.bind_some, Option.bind_none, Option.map_some, Option.map_none, List.length_cons, List.length_nil, List.getElem?_cons_zero, List.getElem?_cons_succ, List.set_cons_zero, List.set_cons_succ, List.cons_append, List.nil_append, List.append_nil, List.replicate, if_true, if_false, Nat.reduceAdd, Nat.reduceSub, Nat.reduceLeDiff, Nat.reduceEqDiff, reduceIte, Bool.false_eq_true, reduceCtorEq, Bool.not_true, Bool.not_false, decide_true, decide_false, id]; rw [if_pos (by decide)]; rfl) ⟨_, _, _, rfl, rfl, rfl, rfl⟩ ?_ ?_) ?_
  · rintro j ρ hj ⟨a, b, c, rfl, ha, hb, hc⟩
    refine ⟨ha, ?_⟩
    have done : ∀ (j : Nat), j < 3 → (sIf (mTest (mBin eqM (mV 3) (mC (.int 0))))
  (sDoX (xMeth "Hall" "told" (.r 0) 0 Hall_told_m (xCons (xE (mV 1)) xNil)))
  (sIf (mTest (mBin eqM (mV 3) (mC (.int 1))))
  (sDoX (xMeth "Hall" "bases" (.r 0) 0 Hall_bases_m (xCons (xE (mV 1)) xNil)))
  (sDoX (xMeth "Hall" "stood" (.r 0) 0 Hall_stood_m (xCons (xE (mV 1)) xNil))))) [.r (hallOb S G), .d (.int n), .d (.int (j : Int)), .d (.int (j : Int)), b, c] = .ex "NoSeal" [.r (hallOb S G), .d (.int n), .d (.int (j : Int)), .d (.int (j : Int)), b, c] := fun j hj => by
      have hx : ∀ (nm : Str) (fm : FM) (ρ : Rho), (nm == Str.ofString "seals") = false → (nm == Str.ofString "ground") = false → ρ[0]? = some (.r (hallOb S G)) → ρ[1]? = some (.d (.int n)) → fm [.r (hallOb S G), .d (.int n)] = .ex "NoSeal" [] → sDoX (xMeth "Hall" nm (.r 0) 0 fm (xCons (xE (mV 1)) xNil)) ρ = .ex "NoSeal" ρ := fun nm fm ρ q1 q2 q3 q4 q5 => by
        have hm : xCons (xE (mV 1)) xNil ρ = .vals ([PyData.int n].map .d) ρ := by unfold xCons xE xNil mV; rw [q4]; rfl
        unfold sDoX
        rw [meth_r (.inr q3) q1 q2 hm]
        show (match (match fm [.r (hallOb S G), .d (.int n)] with | .ret d _ => XOut.val d ρ | .ex c _ => .ex c ρ | .stuck => .stuck) with | .val _ ρ1 => Out.nx ρ1 | .ex c ρ1 => .ex c ρ1 | .stuck => .stuck) = _
        rw [q5]
      have h1 := hx "told" Hall_told_m [.r (hallOb S G), .d (.int n), .d (.int (j : Int)), .d (.int (j : Int)), b, c] (by decide +kernel) (by decide +kernel) rfl rfl (told_none hs)
      have h2 := hx "bases" Hall_bases_m [.r (hallOb S G), .d (.int n), .d (.int (j : Int)), .d (.int (j : Int)), b, c] (by decide +kernel) (by decide +kernel) rfl rfl (bases_none hs)
      have h3 := hx "stood" Hall_stood_m [.r (hallOb S G), .d (.int n), .d (.int (j : Int)), .d (.int (j : Int)), b, c] (by decide +kernel) (by decide +kernel) rfl rfl (stood_none hs)
      have : j = 0 ∨ j = 1 ∨ j = 2 := by omega
      rcases this with rfl | rfl | rfl
      · exact h1
      · exact h2
      · exact h3
    have d0 := done j hj
    refine .last (o := .nx [.r (hallOb S G), .d (.int n), .d (.int ((j + 1 : Nat) : Int)), .d (.int (j : Int)), .nil, .d (.bool false)]) ?_ ⟨_, rfl, _, _, _, rfl, rfl, rfl, rfl⟩
    rw [Int.zero_add]
    unfold sTryAs
    simp only [List.set_cons_succ, List.set_cons_zero]
    rw [d0]
    dsimp only
    have hO : isO ([.r (hallOb S G), .d (.int n), .d (.int (j : Int)), .d (.int (j : Int)), b, c] : Rho)[4]? = false := hb
    have : j = 0 ∨ j = 1 ∨ j = 2 := by omega
    rcases this with rfl | rfl | rfl
    · cases b <;> first | (cases hb; done) | (cases c <;> first | (cases hc; done) | (rw [if_pos c1, if_pos c2]; kernel_rfl))
    · cases b <;> first | (cases hb; done) | (cases c <;> first | (cases hc; done) | (rw [if_pos c1, if_pos c2]; kernel_rfl))
    · cases b <;> first | (cases hb; done) | (cases c <;> first | (cases hc; done) | (rw [if_pos c1, if_pos c2]; kernel_rfl))
  · rintro ρ ⟨a, b, c, rfl, ha, hb, hc⟩
    exact ⟨_, rfl, a, b, c, rfl⟩
  · rintro ρ ⟨a, b, c, rfl⟩
    exact .ret (d := .bool true) (by simp only [runF, sSeq, sIf, sRet, sAsg, sNew, sApp, sSkip_ap, sFor, sForZ, mCall, mCons, mNil, mV, mVA, mC, mBin, mUn, mTest, mAndT, mOrT, mNotT, mAnd, mOr, mNot, mBl, bl?, mIf, mTup, mLst, mSl, mSome, mNo, mComp, mIt, mItB, mR1, mR2, mR1c, mZ, mZB, mYes, mkArgs, outs, itemsOf, isO, listM, tupleM, lenM, intM, subM_i, ltM_i, leM_i, gtM_i, geM_i, addM, Option.bind_some, Option.bind_none, Option.map_some, Option.map_none, List.length_cons, List.length_nil, List.getElem?_cons_zero, List.getElem?_cons_succ, List.set_cons_zero, List.set_cons_succ, List.cons_append, List.nil_append, List.append_nil, List.replicate, if_true, if_false, Nat.reduceAdd, Nat.reduceSub, Nat.reduceLeDiff, Nat.reduceEqDiff, reduceIte, Bool.false_eq_true, reduceCtorEq, Bool.not_true, Bool.not_false, decide_true, decide_false, id, eqM_int]) ⟨_, rfl⟩
end
end PL

namespace PL
open PySem PySem.Spec PyProof.Rows L2
open Wd
/-! ### a method that hands back something new -/
section
variable {S : List Seal} {G : List Wd}
theorem newM_l {ρ : Rho} {i : Nat} {nm : Str} {fm : FM} {ms : MA} {ds xs : List PyData} {obs : List Ob} (h : ρ[0]? = some (.r (hallOb S G))) (h1 : (nm == Str.ofString "seals") = false) (h2 : (nm == Str.ofString "ground") = false) (hm : ms ρ = some ds) (hi : isO ρ[i]? = false ∧ i < ρ.length)
    (hf : fm (.r (hallOb S G) :: ds.map .d) = .ret (.list xs) obs) : sNewM i "Hall" nm 0 fm ms ρ = .nx (ρ.set i (.o (.lst xs))) := by
  have e1 : insOf ρ[0]? = some (("Hall" : Str), hallFs S G) := by rw [h]; rfl
  unfold sNewM
  rw [e1, hm]
  dsimp only
  rw [if_pos ⟨⟨rfl, look_no S G h1 h2⟩, hi⟩]
  show (match fm (.r (hallOb S G) :: ds.map .d) with
    | .ret (.list xs) _ => Out.nx (ρ.set i (.o (.lst xs)))
    | .ret (.tuple [.list xs, d2]) _ => .nx (ρ.set i (.o (.pr xs d2)))
    | .ex c _ => .ex c ρ
    | _ => .stuck) = _
  rw [hf]
theorem newM_p {ρ : Rho} {i : Nat} {nm : Str} {fm : FM} {ms : MA} {ds xs : List PyData} {d2 : PyData} {obs : List Ob} (h : ρ[0]? = some (.r (hallOb S G))) (h1 : (nm == Str.ofString "seals") = false) (h2 : (nm == Str.ofString "ground") = false) (hm : ms ρ = some ds) (hi : isO ρ[i]? = false ∧ i < ρ.length)
    (hf : fm (.r (hallOb S G) :: ds.map .d) = .ret (.tuple [.list xs, d2]) obs) : sNewM i "Hall" nm 0 fm ms ρ = .nx (ρ.set i (.o (.pr xs d2))) := by
  have e1 : insOf ρ[0]? = some (("Hall" : Str), hallFs S G) := by rw [h]; rfl
  unfold sNewM
  rw [e1, hm]
  dsimp only
  rw [if_pos ⟨⟨rfl, look_no S G h1 h2⟩, hi⟩]
  show (match fm (.r (hallOb S G) :: ds.map .d) with
    | .ret (.list xs) _ => Out.nx (ρ.set i (.o (.lst xs)))
    | .ret (.tuple [.list xs, d2]) _ => .nx (ρ.set i (.o (.pr xs d2)))
    | .ex c _ => .ex c ρ
    | _ => .stuck) = _
  rw [hf]
theorem right_fn (hh : HallOk S G) (hg : GivOk S) (hS : S.length ≤ 60) {n : Int} (hn : 0 ≤ n ∧ n < (S.length : Int)) : right_l_m [.r (hallOb S G), .b (rowsL S), .d (.int n)] = .ret (.bool true) [] := by
  obtain ⟨s, hs⟩ := seal_there hn
  have ok := hh.seals s (sealG_some hs).2.2
  obtain ⟨xs, e1, e2, hxs⟩ := stands_rows (G := G) hg hS hn
  have e1' : Hall_stood_m [.r (hallOb S G), .d (.int n)] = .ret (.list (xs.map .int)) [] := e1
  have e2' : stood_l_m [.b (rowsL S), .d (.int n)] = .ret (.list (xs.map .int)) [] := e2
  have eb : Hall_bases_m [.r (hallOb S G), .d (.int n)] = .ret (.list (s.bases.map .int)) [] := bases_fn hs
  have et : Hall_told_m [.r (hallOb S G), .d (.int n)] = .ret (.tuple [.list (datas s.under), s.said.data]) [] := told_fn hs
  have hix := rowsL_ix hs
  have r1 : ixM (rowD s) (.int 1) = some (.list (s.bases.map .int)) := rfl
  have l1 := ints_likeB xs
  have l2 := ints_likeB s.bases
  rw [right_l_m]
  refine fn_ret rfl (by simp [isO]) ?_
  refine Ends.nx (ρ' := [.r (hallOb S G), .b (rowsL S), .d (.int n), .o (.lst (xs.map .int)), .nil, .nil, .nil, .nil]) (newM_l (ds := [.int n]) rfl (by decide +kernel) (by decide +kernel) rfl ⟨rfl, by simp⟩ e1') ?_
  refine Ends.nx (ρ' := [.r (hallOb S G), .b (rowsL S), .d (.int n), .o (.lst (xs.map .int)), .o (.lst (s.bases.map .int)), .nil, .nil, .nil]) (newM_l (ds := [.int n]) rfl (by decide +kernel) (by decide +kernel) rfl ⟨rfl, by simp⟩ eb) ?_
  refine Ends.no (by simp only [runF, sSeq, sIf, sRet, sAsg, sNew, sApp, sSkip_ap, sFor, sForZ, mCall, mCons, mNil, mV, mVA, mC, mBin, mUn, mTest, mAndT, mOrT, mNotT, mAnd, mOr, mNot, mBl, bl?, mIf, mTup, mLst, mSl, mSome, mNo, mComp, mIt, mItB, mR1, mR2, mR1c, mZ, mZB, mYes, mkArgs, outs, itemsOf, isO, listM, tupleM, lenM, intM, subM_i, ltM_i, leM_i, gtM_i, geM_i, addM, Option.bind_some, Option.bind_none, Option.map_some, Option.map_none, List.length_cons, List.length_nil, List.getElem?_cons_zero, List.getElem?_cons_succ, List.set_cons_zero, List.set_cons_succ, List.cons_append, List.nil_append, List.append_nil, List.replicate, if_true, if_false, Nat.reduceAdd, Nat.reduceSub, Nat.reduceLeDiff, Nat.reduceEqDiff, reduceIte, Bool.false_eq_true, reduceCtorEq, Bool.not_true, Bool.not_false, decide_true, decide_false, id, e2', l1, hix, r1, l2]) ?_
  refine Ends.nx (ρ' := [.r (hallOb S G), .b (rowsL S), .d (.int n), .o (.lst (xs.map .int)), .o (.lst (s.bases.map .int)), .o (.pr (datas s.under) s.said.data), .nil, .nil]) (newM_p (ds := [.int n]) rfl (by decide +kernel) (by decide +kernel) rfl ⟨rfl, by simp⟩ et) ?_
  refine Ends.nx (ρ' := [.r (hallOb S G), .b (rowsL S), .d (.int n), .o (.lst (xs.map .int)), .o (.lst (s.bases.map .int)), .o (.pr (datas s.under) s.said.data), .d (.list (datas s.under)), .nil]) (by simp only [runF, sSeq, sIf, sRet, sAsg, sNew, sApp, sSkip_ap, sFor, sForZ, mCall, mCons, mNil, mV, mVA, mC, mBin, mUn, mTest, mAndT, mOrT, mNotT, mAnd, mOr, mNot, mBl, bl?, mIf, mTup, mLst, mSl, mSome, mNo, mComp, mIt, mItB, mR1, mR2, mR1c, mZ, mZB, mYes, mkArgs, outs, itemsOf, isO, listM, tupleM, lenM, intM, subM_i, ltM_i, leM_i, gtM_i, geM_i, addM, Option.bind_some, Option.bind_none, Option.map_some, Option.map_none, List.length_cons, List.length_nil, List.getElem?_cons_zero, List.getElem?_cons_succ, List.set_cons_zero, List.set_cons_succ, List.cons_append, List.nil_append, List.append_nil, List.replicate, if_true, if_false, Nat.reduceAdd, Nat.reduceSub, Nat.reduceLeDiff, Nat.reduceEqDiff, reduceIte, Bool.false_eq_true, reduceCtorEq, Bool.not_true, Bool.not_false, decide_true, decide_false, id, mPr0]) ?_
  have z1 : (xs.map PyData.int).length < sizeLine := by rw [List.length_map, sizeLine_eq]; omega
  have z2 : (s.bases.map PyData.int).length < sizeLine := by have := ok.blen; have := hh.gl; rw [List.length_map, sizeLine_eq]; omega
  have z3 : (datas s.under).length < sizeLine := by have := ok.len; rw [datas_len, sizeLine_eq]; omega
  refine Ends.nx (ρ' := [.r (hallOb S G), .b (rowsL S), .d (.int n), .o (.lst (xs.map .int ++ [.int 99])), .o (.lst (s.bases.map .int)), .o (.pr (datas s.under) s.said.data), .d (.list (datas s.under)), .nil]) (by
    unfold sApp
    simp only [List.getElem?_cons_succ, List.getElem?_cons_zero, mC]
    rw [if_pos z1]
    rfl) ?_
  refine Ends.nx (ρ' := [.r (hallOb S G), .b (rowsL S), .d (.int n), .o (.lst (xs.map .int ++ [.int 99])), .o (.lst (s.bases.map .int ++ [.int 99])), .o (.pr (datas s.under) s.said.data), .d (.list (datas s.under)), .nil]) (by
    unfold sApp
    simp only [List.getElem?_cons_succ, List.getElem?_cons_zero, mC]
    rw [if_pos z2]
    rfl) ?_
  refine Ends.nx (ρ' := [.r (hallOb S G), .b (rowsL S), .d (.int n), .o (.lst (xs.map .int ++ [.int 99])), .o (.lst (s.bases.map .int ++ [.int 99])), .o (.pr (datas s.under ++ [Wd.no.data]) s.said.data), .d (.list (datas s.under)), .nil]) (by
    have hm : mTup (mCons (mC (.str "no")) mNil) [.r (hallOb S G), .b (rowsL S), .d (.int n), .o (.lst (xs.map .int ++ [.int 99])), .o (.lst (s.bases.map .int ++ [.int 99])), .o (.pr (datas s.under) s.said.data), .d (.list (datas s.under)), .nil] = some Wd.no.data := by simp only [runF, sSeq, sIf, sRet, sAsg, sNew, sApp, sSkip_ap, sFor, sForZ, mCall, mCons, mNil, mV, mVA, mC, mBin, mUn, mTest, mAndT, mOrT, mNotT, mAnd, mOr, mNot, mBl, bl?, mIf, mTup, mLst, mSl, mSome, mNo, mComp, mIt, mItB, mR1, mR2, mR1c, mZ, mZB, mYes, mkArgs, outs, itemsOf, isO, listM, tupleM, lenM, intM, subM_i, ltM_i, leM_i, gtM_i, geM_i, addM, Option.bind_some, Option.bind_none, Option.map_some, Option.map_none, List.length_cons, List.length_nil, List.getElem?_cons_zero, List.getElem?_cons_succ, List.set_cons_zero, List.set_cons_succ, List.cons_append, List.nil_append, List.append_nil, List.replicate, if_true, if_false, Nat.reduceAdd, Nat.reduceSub, Nat.reduceLeDiff, Nat.reduceEqDiff, reduceIte, Bool.false_eq_true, reduceCtorEq, Bool.not_true, Bool.not_false, decide_true, decide_false, id]; rfl
    unfold sAppPr
    rw [hm]
    simp only [List.getElem?_cons_succ, List.getElem?_cons_zero]
    rw [if_pos z3]
    rfl) ?_
  have tx := told_x (ρ := [.r (hallOb S G), .b (rowsL S), .d (.int n), .o (.lst (xs.map .int ++ [.int 99])), .o (.lst (s.bases.map .int ++ [.int 99])), .o (.pr (datas s.under ++ [Wd.no.data]) s.said.data), .d (.list (datas s.under)), .nil]) (i := 0) (ms := xCons (xE (mV 2)) xNil) (n := n) (.inr rfl) rfl hs
  refine Ends.nx (asgX_ok tx rfl) ?_
  have hm : xCons (xE (mV 2)) xNil [.r (hallOb S G), .b (rowsL S), .d (.int n), .o (.lst (xs.map .int ++ [.int 99])), .o (.lst (s.bases.map .int ++ [.int 99])), .o (.pr (datas s.under ++ [Wd.no.data]) s.said.data), .d (.list (datas s.under)), .d (toldD s)] = .vals ([PyData.int n].map .d) [.r (hallOb S G), .b (rowsL S), .d (.int n), .o (.lst (xs.map .int ++ [.int 99])), .o (.lst (s.bases.map .int ++ [.int 99])), .o (.pr (datas s.under ++ [Wd.no.data]) s.said.data), .d (.list (datas s.under)), .d (toldD s)] := rfl
  have hx : xMeth "Hall" "stood" (.r 0) 0 Hall_stood_m (xCons (xE (mV 2)) xNil) [.r (hallOb S G), .b (rowsL S), .d (.int n), .o (.lst (xs.map .int ++ [.int 99])), .o (.lst (s.bases.map .int ++ [.int 99])), .o (.pr (datas s.under ++ [Wd.no.data]) s.said.data), .d (.list (datas s.under)), .d (toldD s)] = .val (intsD xs) [.r (hallOb S G), .b (rowsL S), .d (.int n), .o (.lst (xs.map .int ++ [.int 99])), .o (.lst (s.bases.map .int ++ [.int 99])), .o (.pr (datas s.under ++ [Wd.no.data]) s.said.data), .d (.list (datas s.under)), .d (toldD s)] := by
    rw [meth_r (.inr rfl) (by decide +kernel) (by decide +kernel) hm]
    show (match Hall_stood_m [.r (hallOb S G), .d (.int n)] with | .ret d _ => XOut.val d _ | .ex c _ => .ex c _ | .stuck => .stuck) = _
    rw [e1]
  have l3 := words_like140 (ws := s.under) fun w hw => ok.under w hw
  have l4 := ints_like140 xs
  have t0 : ixM (toldD s) (.int 0) = some (.list (datas s.under)) := rfl
  have ok2 : okA [.d (intsD xs), .d (intsD xs)] = true := rfl
  exact .last (o := .rt (.bool true) [.r (hallOb S G), .b (rowsL S), .d (.int n), .o (.lst (xs.map .int ++ [.int 99])), .o (.lst (s.bases.map .int ++ [.int 99])), .o (.pr (datas s.under ++ [Wd.no.data]) s.said.data), .d (.list (datas s.under)), .d (toldD s)]) (by unfold sRetX xAndV; simp only [runF, sSeq, sIf, sRet, sAsg, sNew, sApp, sSkip_ap, sFor, sForZ, mCall, mCons, mNil, mV, mVA, mC, mBin, mUn, mTest, mAndT, mOrT, mNotT, mAnd, mOr, mNot, mBl, bl?, mIf, mTup, mLst, mSl, mSome, mNo, mComp, mIt, mItB, mR1, mR2, mR1c, mZ, mZB, mYes, mkArgs, outs, itemsOf, isO, listM, tupleM, lenM, intM, subM_i, ltM_i, leM_i, gtM_i, geM_i, addM, Option.bind_some, Option.bind_none, Option.map_some, Option.map_none, List.length_cons, List.length_nil, List.getElem?_cons_zero, List.getElem?_cons_succ, List.set_cons_zero, List.set_cons_succ, List.cons_append, List.nil_append, List.append_nil, List.replicate, if_true, if_false, Nat.reduceAdd, Nat.reduceSub, Nat.reduceLeDiff, Nat.reduceEqDiff, reduceIte, Bool.false_eq_true, reduceCtorEq, Bool.not_true, Bool.not_false, decide_true, decide_false, id, xE, xCall, xNil, xCons, xSlot, xTup, xUn, xBin, xOut, xFin, slsOf, slOf, dsOf, putB, xT, xTest, xAndT, xOrT, xNotT, sAsgX, sRetX, sDoX, sIfX, sAppX, sExc, sTry, sHds, noEx, sTryAs, wipeO, mIsE, sFz, sPop, negM, mChain, List.nodup_nil, List.all_nil, Bool.and_true, Bool.true_and, t0, l3, hx, e2, ok2, l4]) ⟨_, rfl⟩
end
/-! ### how a hall grows -/
structure Sz (c : Nat) (s : Seal) : Prop where
  un : s.under.length ≤ c + 1
  ly : s.said.lay ≤ c + 3
  kn : kn s.said ≤ 3 * c + 3
  ns : nst s.said = 0
theorem Sz.mono {c e : Nat} {s : Seal} (h : Sz c s) (l : c ≤ e) : Sz e s := ⟨by have := h.un; omega, by have := h.ly; omega, by have := h.kn; omega, h.ns⟩
theorem fit_sz {c : Nat} {s : Seal} (h : Sz c s) (hc : c ≤ 20) : fitE s = .ok s := by
  have h1 : s.under.length ≤ 64 := by have := h.un; omega
  have h2 : PL.kn s.said ≤ 300 := by have := h.kn; omega
  have h3 : s.said.lay ≤ 60 := by have := h.ly; omega
  have h4 : nst s.said ≤ 6 := by have := h.ns; omega
  unfold fitE fitB fairB
  rw [decide_eq_true h1, decide_eq_true h2, decide_eq_true h3, decide_eq_true h4]
  rfl
structure Kept (S : List Seal) (G : List Wd) (c m : Nat) : Prop where
  hh : HallOk S G
  hg : GivOk S
  ln : S.length ≤ m
  gl : G.length ≤ c
  sz : ∀ s ∈ S, Sz c s
theorem Kept.nil : Kept [] [] 0 0 := ⟨hall_nil, .nil, by simp, by simp, by simp⟩
theorem Kept.mono {S : List Seal} {G : List Wd} {c e m n : Nat} (k : Kept S G c m) (l : c ≤ e) (l2 : m ≤ n) : Kept S G e n := ⟨k.hh, k.hg, by have := k.ln; omega, by have := k.gl; omega, fun s hs => (k.sz s hs).mono l⟩
theorem Kept.app {S : List Seal} {G : List Wd} {c m : Nat} (k : Kept S G c m) (hc : c ≤ 20) (hm : m ≤ 60) {d : Deed} (hd : d.Fit) {s : Seal} (h : stepP S G d = .ok s) (z : Sz c s) (hG : (hallG G d).length ≤ c) : Kept (S ++ [s]) (hallG G d) c (m + 1) := by
  have l1 := k.ln
  have l2 := k.gl
  have nums := step_nums h
  refine ⟨step_hall k.hh hd h (by omega) (by omega), k.hg.app (by rw [nums.1]; exact nums.2), by rw [List.length_append, List.length_singleton]; omega, hG, fun t ht => ?_⟩
  rcases List.mem_append.mp ht with h | h
  · exact k.sz t h
  · rw [List.mem_singleton.mp h]; exact z
theorem retM_ok {S : List Seal} {G G' : List Wd} {ρ : Rho} {nm : Str} {fm : FM} {ms : MXs} {ds : List PyData} {s : Seal} (h : ρ[0]? = some (.o (hallOb S G))) (h1 : (nm == Str.ofString "seals") = false) (h2 : (nm == Str.ofString "ground") = false)
    (hm : ms ρ = .vals (ds.map .d) ρ) (hf : fm (.o (hallOb S G) :: ds.map .d) = outE S G G' (.ok s)) : sRetX (xMeth "Hall" nm (.o 0) 0 fm ms) ρ = .rt (.int (S.length : Int)) (ρ.set 0 (.o (hallOb (S ++ [s]) G'))) := by
  have e := meth_o (fm := fm) h h1 h2 hm
  rw [hf, outE, xFin_ret] at e
  exact retX_ok e
theorem doM_ok {S : List Seal} {G G' : List Wd} {ρ : Rho} {nm : Str} {fm : FM} {ms : MXs} {ds : List PyData} {s : Seal} (h : ρ[0]? = some (.o (hallOb S G))) (h1 : (nm == Str.ofString "seals") = false) (h2 : (nm == Str.ofString "ground") = false)
    (hm : ms ρ = .vals (ds.map .d) ρ) (hf : fm (.o (hallOb S G) :: ds.map .d) = outE S G G' (.ok s)) : sDoX (xMeth "Hall" nm (.o 0) 0 fm ms) ρ = .nx (ρ.set 0 (.o (hallOb (S ++ [s]) G'))) := by
  have e := meth_o (fm := fm) h h1 h2 hm
  rw [hf, outE, xFin_ret] at e
  unfold sDoX
  rw [e]
theorem appRow {S : List Seal} {ρ : Rho} {m : ME} {s : Seal} (hl : S.length ≤ 60) (h : ρ[1]? = some (.o (.lst (rowsL S)))) (hm : m ρ = some (rowD s)) : sApp 1 m ρ = .nx (ρ.set 1 (.o (.lst (rowsL (S ++ [s]))))) := by
  unfold sApp
  rw [h, hm]
  dsimp only
  rw [if_pos (by rw [rowsL_len, sizeLine_eq]; omega), rowsL_app]
theorem rise_id {xs : List Int} (h : xs.Pairwise (· < ·)) : riseI xs = xs := rise_eq (riseI_lt _) h fun k => riseI_mem k _
theorem lessW_len (ws : List Wd) (w : Wd) : (lessW ws w).length ≤ ws.length := List.length_filter_le _ _
theorem joinW_len (us ws : List Wd) : (joinW us ws).length ≤ us.length + ws.length := by
  unfold joinW
  rw [List.length_append]
  have := List.length_filter_le (fun w => !(us.any fun u => weq u w)) ws
  omega
end PL

namespace PL
open PySem PySem.Spec PyProof.Rows L2
open Wd
/-! ### one cell's steps -/
def MoreOk (c m : Nat) (r : FOut) : Prop := ∃ (S : List Seal) (G : List Wd), r = .ret (.int ((S.length : Int) - 1)) [hallOb S G, .lst (rowsL S), .lst (datas G)] ∧ Kept S G (c + 1) (m + 2) ∧ 0 < S.length
section
variable {x : Str} (hx : Nm x)
include hx
theorem more_l_fn {S : List Seal} {G : List Wd} {c m : Nat} (k : Kept S G c m) (hc : c ≤ 12) (hm : m ≤ 30) (seed : Int) :
    MoreOk c m (more_l_m [.o (hallOb S G), .o (.lst (rowsL S)), .o (.lst (datas G)), .d (.int seed), .d (.str x)]) := by
  have hln := k.ln
  have hgl := k.gl
  have hS60 : S.length ≤ 60 := by omega
  obtain ⟨v, hv, hv0⟩ : ∃ v, seed / 64 % 5 = v ∧ 0 ≤ v := ⟨_, rfl, Int.emod_nonneg _ (by decide)⟩
  have hfw := fw_r1 hx hv0
  have hcn := fw_cnd hx
  have d64 := div_ok (i := seed) (j := 64) (by decide) (by decide)
  have m64 := mod_ok (i := seed / 64) (j := 5) (by decide)
  rw [hv] at m64
  have hform : PyData.tuple [.str "rel", .str x, .tuple [.tuple [.str "var", .int v]]] = (Wd.rel x [.var v]).data := rfl
  have hcd : PyData.tuple [.str "rel", .str x, .tuple []] = (cndW x).data := rfl
  have m5 := mod_ok (i := seed) (j := 5) (by decide)
  have w0 : 0 ≤ seed % 5 := Int.emod_nonneg _ (by decide)
  have w1 : seed % 5 < 5 := Int.emod_lt_of_pos _ (by decide)
  have d320 := div_ok (i := seed) (j := 320) (by decide) (by decide)
  have hlen : lenM (.list (rowsL S)) = some (.int (S.length : Int)) := by simp only [lenM, rowsL_len]
  obtain ⟨q, hq, hq0, hq1⟩ : ∃ q : Int, maxM (.int 1) (.int (S.length : Int)) = some (.int q) ∧ 0 < q ∧ (0 < S.length → q = (S.length : Int)) := by
    refine ⟨if (S.length : Int) > 1 then (S.length : Int) else 1, rfl, ?_, fun h => ?_⟩
    · split <;> omega
    · split <;> omega
  have m320 := mod_ok (i := seed / 320) (j := q) hq0
  obtain ⟨last, hlast, hl0, hl1⟩ : ∃ last, seed / 320 % q = last ∧ 0 ≤ last ∧ last < q := ⟨_, rfl, Int.emod_nonneg _ (by omega), Int.emod_lt_of_pos _ hq0⟩
  rw [hlast] at m320
  -- the seals that may come
  have sA : Sz (c + 1) ⟨[.rel x [.var v]], .rel x [.var v], [], []⟩ := ⟨by simp, by simp [lay, lays], by simp [kn, kns] <;> omega, rfl⟩
  have stA : stepP S G (.assume (.rel x [.var v])) = .ok ⟨[.rel x [.var v]], .rel x [.var v], [], []⟩ := by rw [stepP]; exact fit_sz sA (by omega)
  rw [more_l_m]
  refine ends_run rfl _ ?_
  refine Ends.nx (ρ' := [.o (hallOb S G), .o (.lst (rowsL S)), .o (.lst (datas G)), .d (.int seed), .d (.str x), .d (Wd.rel x [.var v]).data, .nil, .nil, .nil, .nil]) (by simp only [runF, sSeq, sIf, sRet, sAsg, sNew, sApp, sSkip_ap, sFor, sForZ, mCall, mCons, mNil, mV, mVA, mC, mBin, mUn, mTest, mAndT, mOrT, mNotT, mAnd, mOr, mNot, mBl, bl?, mIf, mTup, mLst, mSl, mSome, mNo, mComp, mIt, mItB, mR1, mR2, mR1c, mZ, mZB, mYes, mkArgs, outs, itemsOf, isO, listM, tupleM, lenM, intM, subM_i, ltM_i, leM_i, gtM_i, geM_i, addM, Option.bind_some, Option.bind_none, Option.map_some, Option.map_none, List.length_cons, List.length_nil, List.getElem?_cons_zero, List.getElem?_cons_succ, List.set_cons_zero, List.set_cons_succ, List.cons_append, List.nil_append, List.append_nil, List.replicate, if_true, if_false, Nat.reduceAdd, Nat.reduceSub, Nat.reduceLeDiff, Nat.reduceEqDiff, reduceIte, Bool.false_eq_true, reduceCtorEq, Bool.not_true, Bool.not_false, decide_true, decide_false, id, d64, m64, hform]) ?_
  refine Ends.nx (ρ' := [.o (hallOb S G), .o (.lst (rowsL S)), .o (.lst (datas G)), .d (.int seed), .d (.str x), .d (Wd.rel x [.var v]).data, .d (.int (seed % 5)), .nil, .nil, .nil]) (by simp only [runF, sSeq, sIf, sRet, sAsg, sNew, sApp, sSkip_ap, sFor, sForZ, mCall, mCons, mNil, mV, mVA, mC, mBin, mUn, mTest, mAndT, mOrT, mNotT, mAnd, mOr, mNot, mBl, bl?, mIf, mTup, mLst, mSl, mSome, mNo, mComp, mIt, mItB, mR1, mR2, mR1c, mZ, mZB, mYes, mkArgs, outs, itemsOf, isO, listM, tupleM, lenM, intM, subM_i, ltM_i, leM_i, gtM_i, geM_i, addM, Option.bind_some, Option.bind_none, Option.map_some, Option.map_none, List.length_cons, List.length_nil, List.getElem?_cons_zero, List.getElem?_cons_succ, List.set_cons_zero, List.set_cons_succ, List.cons_append, List.nil_append, List.append_nil, List.replicate, if_true, if_false, Nat.reduceAdd, Nat.reduceSub, Nat.reduceLeDiff, Nat.reduceEqDiff, reduceIte, Bool.false_eq_true, reduceCtorEq, Bool.not_true, Bool.not_false, decide_true, decide_false, id, m5]) ?_
  refine Ends.nx (ρ' := [.o (hallOb S G), .o (.lst (rowsL S)), .o (.lst (datas G)), .d (.int seed), .d (.str x), .d (Wd.rel x [.var v]).data, .d (.int (seed % 5)), .d (.int last), .nil, .nil]) (by simp only [runF, sSeq, sIf, sRet, sAsg, sNew, sApp, sSkip_ap, sFor, sForZ, mCall, mCons, mNil, mV, mVA, mC, mBin, mUn, mTest, mAndT, mOrT, mNotT, mAnd, mOr, mNot, mBl, bl?, mIf, mTup, mLst, mSl, mSome, mNo, mComp, mIt, mItB, mR1, mR2, mR1c, mZ, mZB, mYes, mkArgs, outs, itemsOf, isO, listM, tupleM, intM, subM_i, ltM_i, leM_i, gtM_i, geM_i, addM, Option.bind_some, Option.bind_none, Option.map_some, Option.map_none, List.length_cons, List.length_nil, List.getElem?_cons_zero, List.getElem?_cons_succ, List.set_cons_zero, List.set_cons_succ, List.cons_append, List.nil_append, List.append_nil, List.replicate, if_true, if_false, Nat.reduceAdd, Nat.reduceSub, Nat.reduceLeDiff, Nat.reduceEqDiff, reduceIte, Bool.false_eq_true, reduceCtorEq, Bool.not_true, Bool.not_false, decide_true, decide_false, id, d320, hlen, hq, m320]) ?_
  generalize seed % 5 = way at w0 w1
  have finish : ∀ {S' : List Seal} {G' : List Wd} {n : Int} {ρ : Rho}, Kept S' G' (c + 1) (m + 2) → 0 < S'.length → n = (S'.length : Int) - 1 → ρ[0]? = some (.o (hallOb S' G')) → ρ[1]? = some (.o (.lst (rowsL S'))) → ρ[2]? = some (.o (.lst (datas G'))) →
      MoreOk c m (fin [.o (hallOb S G), .o (.lst (rowsL S)), .o (.lst (datas G)), .d (.int seed), .d (.str x)] (.rt (.int n) ρ)) := fun {S' G' n ρ} kk hp hn e0 e1 e2 => by
    refine ⟨S', G', ?_, kk, hp⟩
    subst hn
    match ρ, e0, e1, e2 with
    | s0 :: s1 :: s2 :: ρ, e0, e1, e2 =>
      cases e0
      cases e1
      cases e2
      have z : outs [.d (.int seed), .d (.str x)] ρ = [] := outs_d [.int seed, .str x] ρ
      simp only [fin, outs, z]
  by_cases hA : S.length = 0 ∨ way = 0
  · -- assumed
    have ht : mOrT (mTest (mBin eqM (mUn lenM (mVA 1)) (mC (.int 0)))) (mTest (mBin eqM (mV 6) (mC (.int 0)))) [.o (hallOb S G), .o (.lst (rowsL S)), .o (.lst (datas G)), .d (.int seed), .d (.str x), .d (Wd.rel x [.var v]).data, .d (.int way), .d (.int last), .nil, .nil] = some true := by
      by_cases h : S.length = 0
      · have : decide ((S.length : Int) = 0) = true := decide_eq_true (by omega)
        simp only [runF, sSeq, sIf, sRet, sAsg, sNew, sApp, sSkip_ap, sFor, sForZ, mCall, mCons, mNil, mV, mVA, mC, mBin, mUn, mTest, mAndT, mOrT, mNotT, mAnd, mOr, mNot, mBl, bl?, mIf, mTup, mLst, mSl, mSome, mNo, mComp, mIt, mItB, mR1, mR2, mR1c, mZ, mZB, mYes, mkArgs, outs, itemsOf, isO, listM, tupleM, intM, subM_i, ltM_i, leM_i, gtM_i, geM_i, addM, Option.bind_some, Option.bind_none, Option.map_some, Option.map_none, List.length_cons, List.length_nil, List.getElem?_cons_zero, List.getElem?_cons_succ, List.set_cons_zero, List.set_cons_succ, List.cons_append, List.nil_append, List.append_nil, List.replicate, if_true, if_false, Nat.reduceAdd, Nat.reduceSub, Nat.reduceLeDiff, Nat.reduceEqDiff, reduceIte, Bool.false_eq_true, reduceCtorEq, Bool.not_true, Bool.not_false, decide_true, decide_false, id, hlen, eqM_int, this]
      · have h' : decide ((S.length : Int) = 0) = false := decide_eq_false (by omega)
        have hw : decide (way = 0) = true := decide_eq_true (hA.resolve_left h)
        simp only [runF, sSeq, sIf, sRet, sAsg, sNew, sApp, sSkip_ap, sFor, sForZ, mCall, mCons, mNil, mV, mVA, mC, mBin, mUn, mTest, mAndT, mOrT, mNotT, mAnd, mOr, mNot, mBl, bl?, mIf, mTup, mLst, mSl, mSome, mNo, mComp, mIt, mItB, mR1, mR2, mR1c, mZ, mZB, mYes, mkArgs, outs, itemsOf, isO, listM, tupleM, intM, subM_i, ltM_i, leM_i, gtM_i, geM_i, addM, Option.bind_some, Option.bind_none, Option.map_some, Option.map_none, List.length_cons, List.length_nil, List.getElem?_cons_zero, List.getElem?_cons_succ, List.set_cons_zero, List.set_cons_succ, List.cons_append, List.nil_append, List.append_nil, List.replicate, if_true, if_false, Nat.reduceAdd, Nat.reduceSub, Nat.reduceLeDiff, Nat.reduceEqDiff, reduceIte, Bool.false_eq_true, reduceCtorEq, Bool.not_true, Bool.not_false, decide_true, decide_false, id, hlen, eqM_int, h', hw]
    refine Ends.hit ht ?_
    refine Ends.nx (appRow (s := ⟨[.rel x [.var v]], .rel x [.var v], [], []⟩) hS60 rfl rfl) ?_
    have ea := assume_fn k.hh (w := .rel x [.var v]) hfw
    rw [stA] at ea
    refine .last (retM_ok (ds := [(Wd.rel x [.var v]).data]) rfl (by decide +kernel) (by decide +kernel) rfl ea) ⟨(by intro ρ z; cases z), ?_⟩
    exact finish (((k.mono (Nat.le_succ c) (Nat.le_refl m)).app (by omega) (by omega) (d := .assume (.rel x [.var v])) hfw stA sA (by show G.length ≤ _; omega)).mono (Nat.le_refl _) (by omega)) (by simp) (by rw [List.length_append, List.length_singleton]; omega) rfl rfl rfl
  have hpos : 0 < S.length := Nat.pos_of_ne_zero fun z => hA (.inl z)
  have hw0 : way ≠ 0 := fun z => hA (.inr z)
  have hql := hq1 hpos
  rw [hql] at hl1
  have hA' : decide ((S.length : Int) = 0) = false := decide_eq_false (by omega)
  refine Ends.no (by simp only [runF, sSeq, sIf, sRet, sAsg, sNew, sApp, sSkip_ap, sFor, sForZ, mCall, mCons, mNil, mV, mVA, mC, mBin, mUn, mTest, mAndT, mOrT, mNotT, mAnd, mOr, mNot, mBl, bl?, mIf, mTup, mLst, mSl, mSome, mNo, mComp, mIt, mItB, mR1, mR2, mR1c, mZ, mZB, mYes, mkArgs, outs, itemsOf, isO, listM, tupleM, intM, subM_i, ltM_i, leM_i, gtM_i, geM_i, addM, Option.bind_some, Option.bind_none, Option.map_some, Option.map_none, List.length_cons, List.length_nil, List.getElem?_cons_zero, List.getElem?_cons_succ, List.set_cons_zero, List.set_cons_succ, List.cons_append, List.nil_append, List.append_nil, List.replicate, if_true, if_false, Nat.reduceAdd, Nat.reduceSub, Nat.reduceLeDiff, Nat.reduceEqDiff, reduceIte, Bool.false_eq_true, reduceCtorEq, Bool.not_true, Bool.not_false, decide_true, decide_false, id, hlen, eqM_int, hA', decide_eq_false hw0]) ?_
  obtain ⟨s, hs⟩ := seal_there (S := S) ⟨hl0, hl1⟩
  have ok := k.hh.seals s (sealG_some hs).2.2
  have sz := k.sz s (sealG_some hs).2.2
  have hix := rowsL_ix hs
  by_cases h1 : way = 1
  · -- an axiom
    refine Ends.hit (by simp only [runF, sSeq, sIf, sRet, sAsg, sNew, sApp, sSkip_ap, sFor, sForZ, mCall, mCons, mNil, mV, mVA, mC, mBin, mUn, mTest, mAndT, mOrT, mNotT, mAnd, mOr, mNot, mBl, bl?, mIf, mTup, mLst, mSl, mSome, mNo, mComp, mIt, mItB, mR1, mR2, mR1c, mZ, mZB, mYes, mkArgs, outs, itemsOf, isO, listM, tupleM, lenM, intM, subM_i, ltM_i, leM_i, gtM_i, geM_i, addM, Option.bind_some, Option.bind_none, Option.map_some, Option.map_none, List.length_cons, List.length_nil, List.getElem?_cons_zero, List.getElem?_cons_succ, List.set_cons_zero, List.set_cons_succ, List.cons_append, List.nil_append, List.append_nil, List.replicate, if_true, if_false, Nat.reduceAdd, Nat.reduceSub, Nat.reduceLeDiff, Nat.reduceEqDiff, reduceIte, Bool.false_eq_true, reduceCtorEq, Bool.not_true, Bool.not_false, decide_true, decide_false, id, eqM_int, decide_eq_true h1]) ?_
    have sz1 : Sz (c + 1) ⟨[], cndW x, [(G.length : Int)], []⟩ := ⟨by simp, by simp [cndW, lay, lays], by simp [cndW, kn, kns] <;> omega, rfl⟩
    have st1 : stepP S G (.axi (cndW x)) = .ok ⟨[], cndW x, [(G.length : Int)], []⟩ := by
      rw [stepP, if_neg]
      · exact fit_sz sz1 (by omega)
      · simp [cndW, occ, occs]
    have hz : (datas G).length < sizeLine := by rw [datas_len, sizeLine_eq]; omega
    have hap : datas G ++ [(cndW x).data] = datas (G ++ [cndW x]) := by rw [datas_app]; rfl
    refine Ends.nx (ρ' := [.o (hallOb S G), .o (.lst (rowsL S)), .o (.lst (datas (G ++ [cndW x]))), .d (.int seed), .d (.str x), .d (Wd.rel x [.var v]).data, .d (.int way), .d (.int last), .nil, .nil]) (by
      have hmm : mTup (mCons (mC (.str "rel")) (mCons (mV 4) (mCons (mTup mNil) mNil))) [.o (hallOb S G), .o (.lst (rowsL S)), .o (.lst (datas G)), .d (.int seed), .d (.str x), .d (Wd.rel x [.var v]).data, .d (.int way), .d (.int last), .nil, .nil] = some (cndW x).data := rfl
      unfold sApp
      rw [hmm]
      simp only [List.getElem?_cons_succ, List.getElem?_cons_zero]
      rw [if_pos hz, hap]
      rfl) ?_
    have hl2 : lenM (.list (datas (G ++ [cndW x]))) = some (.int ((G.length : Int) + 1)) := by simp only [lenM, datas_len, List.length_append, List.length_singleton]; rfl
    refine Ends.nx (appRow (s := ⟨[], cndW x, [(G.length : Int)], []⟩) hS60 rfl (by simp only [runF, sSeq, sIf, sRet, sAsg, sNew, sApp, sSkip_ap, sFor, sForZ, mCall, mCons, mNil, mV, mVA, mC, mBin, mUn, mTest, mAndT, mOrT, mNotT, mAnd, mOr, mNot, mBl, bl?, mIf, mTup, mLst, mSl, mSome, mNo, mComp, mIt, mItB, mR1, mR2, mR1c, mZ, mZB, mYes, mkArgs, outs, itemsOf, isO, listM, tupleM, intM, subM_i, ltM_i, leM_i, gtM_i, geM_i, addM, Option.bind_some, Option.bind_none, Option.map_some, Option.map_none, List.length_cons, List.length_nil, List.getElem?_cons_zero, List.getElem?_cons_succ, List.set_cons_zero, List.set_cons_succ, List.cons_append, List.nil_append, List.append_nil, List.replicate, if_true, if_false, Nat.reduceAdd, Nat.reduceSub, Nat.reduceLeDiff, Nat.reduceEqDiff, reduceIte, Bool.false_eq_true, reduceCtorEq, Bool.not_true, Bool.not_false, decide_true, decide_false, id, hl2, Int.add_sub_cancel]; rfl)) ?_
    have ea := axiom_fn k.hh (w := cndW x) hcn
    rw [st1] at ea
    refine .last (retM_ok (ds := [(cndW x).data]) rfl (by decide +kernel) (by decide +kernel) rfl ea) ⟨(by intro ρ z; cases z), ?_⟩
    exact finish (((k.mono (Nat.le_succ c) (Nat.le_refl m)).app (by omega) (by omega) (d := .axi (cndW x)) hcn st1 sz1 (by show (G ++ [cndW x]).length ≤ _; rw [List.length_append, List.length_singleton]; omega)).mono (Nat.le_refl _) (by omega)) (by simp) (by rw [List.length_append, List.length_singleton]; omega) rfl rfl rfl
  refine Ends.no (by simp only [runF, sSeq, sIf, sRet, sAsg, sNew, sApp, sSkip_ap, sFor, sForZ, mCall, mCons, mNil, mV, mVA, mC, mBin, mUn, mTest, mAndT, mOrT, mNotT, mAnd, mOr, mNot, mBl, bl?, mIf, mTup, mLst, mSl, mSome, mNo, mComp, mIt, mItB, mR1, mR2, mR1c, mZ, mZB, mYes, mkArgs, outs, itemsOf, isO, listM, tupleM, lenM, intM, subM_i, ltM_i, leM_i, gtM_i, geM_i, addM, Option.bind_some, Option.bind_none, Option.map_some, Option.map_none, List.length_cons, List.length_nil, List.getElem?_cons_zero, List.getElem?_cons_succ, List.set_cons_zero, List.set_cons_succ, List.cons_append, List.nil_append, List.append_nil, List.replicate, if_true, if_false, Nat.reduceAdd, Nat.reduceSub, Nat.reduceLeDiff, Nat.reduceEqDiff, reduceIte, Bool.false_eq_true, reduceCtorEq, Bool.not_true, Bool.not_false, decide_true, decide_false, id, eqM_int, decide_eq_false h1]) ?_
  by_cases h2 : way = 2
  · -- dropped
    refine Ends.hit (by simp only [runF, sSeq, sIf, sRet, sAsg, sNew, sApp, sSkip_ap, sFor, sForZ, mCall, mCons, mNil, mV, mVA, mC, mBin, mUn, mTest, mAndT, mOrT, mNotT, mAnd, mOr, mNot, mBl, bl?, mIf, mTup, mLst, mSl, mSome, mNo, mComp, mIt, mItB, mR1, mR2, mR1c, mZ, mZB, mYes, mkArgs, outs, itemsOf, isO, listM, tupleM, lenM, intM, subM_i, ltM_i, leM_i, gtM_i, geM_i, addM, Option.bind_some, Option.bind_none, Option.map_some, Option.map_none, List.length_cons, List.length_nil, List.getElem?_cons_zero, List.getElem?_cons_succ, List.set_cons_zero, List.set_cons_succ, List.cons_append, List.nil_append, List.append_nil, List.replicate, if_true, if_false, Nat.reduceAdd, Nat.reduceSub, Nat.reduceLeDiff, Nat.reduceEqDiff, reduceIte, Bool.false_eq_true, reduceCtorEq, Bool.not_true, Bool.not_false, decide_true, decide_false, id, eqM_int, decide_eq_true h2]) ?_
    have sz1 : Sz (c + 1) ⟨lessW s.under (.rel x [.var v]), .iff (.rel x [.var v]) s.said, s.bases, [last]⟩ := ⟨by have := lessW_len s.under (.rel x [.var v]); have := sz.un; show (lessW _ _).length ≤ _; omega, by have := sz.ly; simp only [lay, lays]; omega, by have := sz.kn; simp only [kn, kns]; omega, by have := sz.ns; show max (nst (.rel x [.var v])) (nst s.said) = 0; rw [this]; rfl⟩
    have st1 : stepP S G (.drop last (.rel x [.var v])) = .ok ⟨lessW s.under (.rel x [.var v]), .iff (.rel x [.var v]) s.said, s.bases, [last]⟩ := by
      rw [stepP, hs]
      exact fit_sz sz1 (by omega)
    refine Ends.nx (appRow (s := ⟨lessW s.under (.rel x [.var v]), .iff (.rel x [.var v]) s.said, s.bases, [last]⟩) hS60 rfl (by simp only [runF, sSeq, sIf, sRet, sAsg, sNew, sApp, sSkip_ap, sFor, sForZ, mCall, mCons, mNil, mV, mVA, mC, mBin, mUn, mTest, mAndT, mOrT, mNotT, mAnd, mOr, mNot, mBl, bl?, mIf, mTup, mLst, mSl, mSome, mNo, mComp, mIt, mItB, mR1, mR2, mR1c, mZ, mZB, mYes, mkArgs, outs, itemsOf, isO, listM, tupleM, lenM, intM, subM_i, ltM_i, leM_i, gtM_i, geM_i, addM, Option.bind_some, Option.bind_none, Option.map_some, Option.map_none, List.length_cons, List.length_nil, List.getElem?_cons_zero, List.getElem?_cons_succ, List.set_cons_zero, List.set_cons_succ, List.cons_append, List.nil_append, List.append_nil, List.replicate, if_true, if_false, Nat.reduceAdd, Nat.reduceSub, Nat.reduceLeDiff, Nat.reduceEqDiff, reduceIte, Bool.false_eq_true, reduceCtorEq, Bool.not_true, Bool.not_false, decide_true, decide_false, id, hix, rowD_1]; rfl)) ?_
    have ea := drop_fn k.hh (n := last) (w := .rel x [.var v]) hfw
    rw [st1] at ea
    refine .last (retM_ok (ds := [.int last, (Wd.rel x [.var v]).data]) rfl (by decide +kernel) (by decide +kernel) rfl ea) ⟨(by intro ρ z; cases z), ?_⟩
    exact finish (((k.mono (Nat.le_succ c) (Nat.le_refl m)).app (by omega) (by omega) (d := .drop last (.rel x [.var v])) hfw st1 sz1 (by show G.length ≤ _; omega)).mono (Nat.le_refl _) (by omega)) (by simp) (by rw [List.length_append, List.length_singleton]; omega) rfl rfl rfl
  refine Ends.no (by simp only [runF, sSeq, sIf, sRet, sAsg, sNew, sApp, sSkip_ap, sFor, sForZ, mCall, mCons, mNil, mV, mVA, mC, mBin, mUn, mTest, mAndT, mOrT, mNotT, mAnd, mOr, mNot, mBl, bl?, mIf, mTup, mLst, mSl, mSome, mNo, mComp, mIt, mItB, mR1, mR2, mR1c, mZ, mZB, mYes, mkArgs, outs, itemsOf, isO, listM, tupleM, lenM, intM, subM_i, ltM_i, leM_i, gtM_i, geM_i, addM, Option.bind_some, Option.bind_none, Option.map_some, Option.map_none, List.length_cons, List.length_nil, List.getElem?_cons_zero, List.getElem?_cons_succ, List.set_cons_zero, List.set_cons_succ, List.cons_append, List.nil_append, List.append_nil, List.replicate, if_true, if_false, Nat.reduceAdd, Nat.reduceSub, Nat.reduceLeDiff, Nat.reduceEqDiff, reduceIte, Bool.false_eq_true, reduceCtorEq, Bool.not_true, Bool.not_false, decide_true, decide_false, id, eqM_int, decide_eq_false h2]) ?_
  by_cases h3 : way = 3
  · -- one form more
    refine Ends.hit (by simp only [runF, sSeq, sIf, sRet, sAsg, sNew, sApp, sSkip_ap, sFor, sForZ, mCall, mCons, mNil, mV, mVA, mC, mBin, mUn, mTest, mAndT, mOrT, mNotT, mAnd, mOr, mNot, mBl, bl?, mIf, mTup, mLst, mSl, mSome, mNo, mComp, mIt, mItB, mR1, mR2, mR1c, mZ, mZB, mYes, mkArgs, outs, itemsOf, isO, listM, tupleM, lenM, intM, subM_i, ltM_i, leM_i, gtM_i, geM_i, addM, Option.bind_some, Option.bind_none, Option.map_some, Option.map_none, List.length_cons, List.length_nil, List.getElem?_cons_zero, List.getElem?_cons_succ, List.set_cons_zero, List.set_cons_succ, List.cons_append, List.nil_append, List.append_nil, List.replicate, if_true, if_false, Nat.reduceAdd, Nat.reduceSub, Nat.reduceLeDiff, Nat.reduceEqDiff, reduceIte, Bool.false_eq_true, reduceCtorEq, Bool.not_true, Bool.not_false, decide_true, decide_false, id, eqM_int, decide_eq_true h3]) ?_
    have sz1 : Sz (c + 1) ⟨joinW s.under [.rel x [.var v]], s.said, s.bases, [last]⟩ := ⟨by have := joinW_len s.under [.rel x [.var v]]; have := sz.un; rw [List.length_singleton] at *; show (joinW _ _).length ≤ _; omega, by have := sz.ly; show lay s.said ≤ _; omega, by have := sz.kn; show kn s.said ≤ _; omega, sz.ns⟩
    have st1 : stepP S G (.more last (.rel x [.var v])) = .ok ⟨joinW s.under [.rel x [.var v]], s.said, s.bases, [last]⟩ := by
      rw [stepP, hs]
      exact fit_sz sz1 (by omega)
    refine Ends.nx (appRow (s := ⟨joinW s.under [.rel x [.var v]], s.said, s.bases, [last]⟩) hS60 rfl (by simp only [runF, sSeq, sIf, sRet, sAsg, sNew, sApp, sSkip_ap, sFor, sForZ, mCall, mCons, mNil, mV, mVA, mC, mBin, mUn, mTest, mAndT, mOrT, mNotT, mAnd, mOr, mNot, mBl, bl?, mIf, mTup, mLst, mSl, mSome, mNo, mComp, mIt, mItB, mR1, mR2, mR1c, mZ, mZB, mYes, mkArgs, outs, itemsOf, isO, listM, tupleM, lenM, intM, subM_i, ltM_i, leM_i, gtM_i, geM_i, addM, Option.bind_some, Option.bind_none, Option.map_some, Option.map_none, List.length_cons, List.length_nil, List.getElem?_cons_zero, List.getElem?_cons_succ, List.set_cons_zero, List.set_cons_succ, List.cons_append, List.nil_append, List.append_nil, List.replicate, if_true, if_false, Nat.reduceAdd, Nat.reduceSub, Nat.reduceLeDiff, Nat.reduceEqDiff, reduceIte, Bool.false_eq_true, reduceCtorEq, Bool.not_true, Bool.not_false, decide_true, decide_false, id, hix, rowD_1]; rfl)) ?_
    have ea := more_fn k.hh (n := last) (w := .rel x [.var v]) hfw
    rw [st1] at ea
    refine .last (retM_ok (ds := [.int last, (Wd.rel x [.var v]).data]) rfl (by decide +kernel) (by decide +kernel) rfl ea) ⟨(by intro ρ z; cases z), ?_⟩
    exact finish (((k.mono (Nat.le_succ c) (Nat.le_refl m)).app (by omega) (by omega) (d := .more last (.rel x [.var v])) hfw st1 sz1 (by show G.length ≤ _; omega)).mono (Nat.le_refl _) (by omega)) (by simp) (by rw [List.length_append, List.length_singleton]; omega) rfl rfl rfl
  refine Ends.no (by simp only [runF, sSeq, sIf, sRet, sAsg, sNew, sApp, sSkip_ap, sFor, sForZ, mCall, mCons, mNil, mV, mVA, mC, mBin, mUn, mTest, mAndT, mOrT, mNotT, mAnd, mOr, mNot, mBl, bl?, mIf, mTup, mLst, mSl, mSome, mNo, mComp, mIt, mItB, mR1, mR2, mR1c, mZ, mZB, mYes, mkArgs, outs, itemsOf, isO, listM, tupleM, lenM, intM, subM_i, ltM_i, leM_i, gtM_i, geM_i, addM, Option.bind_some, Option.bind_none, Option.map_some, Option.map_none, List.length_cons, List.length_nil, List.getElem?_cons_zero, List.getElem?_cons_succ, List.set_cons_zero, List.set_cons_succ, List.cons_append, List.nil_append, List.append_nil, List.replicate, if_true, if_false, Nat.reduceAdd, Nat.reduceSub, Nat.reduceLeDiff, Nat.reduceEqDiff, reduceIte, Bool.false_eq_true, reduceCtorEq, Bool.not_true, Bool.not_false, decide_true, decide_false, id, eqM_int, decide_eq_false h3]) ?_
  -- a condition assumed, and met
  have tx := told_x (ρ := [.o (hallOb S G), .o (.lst (rowsL S)), .o (.lst (datas G)), .d (.int seed), .d (.str x), .d (Wd.rel x [.var v]).data, .d (.int way), .d (.int last), .nil, .nil]) (i := 0) (ms := xCons (xE (mV 7)) xNil) (n := last) (.inl rfl) rfl hs
  have t1 : ixM (toldD s) (.int 1) = some s.said.data := rfl
  refine Ends.nx (ρ' := [.o (hallOb S G), .o (.lst (rowsL S)), .o (.lst (datas G)), .d (.int seed), .d (.str x), .d (Wd.rel x [.var v]).data, .d (.int way), .d (.int last), .d s.said.data, .nil]) (by simp only [runF, sSeq, sIf, sRet, sAsg, sNew, sApp, sSkip_ap, sFor, sForZ, mCall, mCons, mNil, mV, mVA, mC, mBin, mUn, mTest, mAndT, mOrT, mNotT, mAnd, mOr, mNot, mBl, bl?, mIf, mTup, mLst, mSl, mSome, mNo, mComp, mIt, mItB, mR1, mR2, mR1c, mZ, mZB, mYes, mkArgs, outs, itemsOf, isO, listM, tupleM, lenM, intM, subM_i, ltM_i, leM_i, gtM_i, geM_i, addM, Option.bind_some, Option.bind_none, Option.map_some, Option.map_none, List.length_cons, List.length_nil, List.getElem?_cons_zero, List.getElem?_cons_succ, List.set_cons_zero, List.set_cons_succ, List.cons_append, List.nil_append, List.append_nil, List.replicate, if_true, if_false, Nat.reduceAdd, Nat.reduceSub, Nat.reduceLeDiff, Nat.reduceEqDiff, reduceIte, Bool.false_eq_true, reduceCtorEq, Bool.not_true, Bool.not_false, decide_true, decide_false, id, xE, xCall, xNil, xCons, xSlot, xTup, xUn, xBin, xOut, xFin, slsOf, slOf, dsOf, putB, xT, xTest, xAndT, xOrT, xNotT, sAsgX, sRetX, sDoX, sIfX, sAppX, sExc, sTry, sHds, noEx, sTryAs, wipeO, mIsE, sFz, sPop, negM, mChain, List.nodup_nil, List.all_nil, Bool.and_true, Bool.true_and, tx, t1]) ?_
  have hif : FW (.iff s.said .no) := ⟨Ok.iff ok.said.1 ok_no, .iff ok.said.2.1 .no, by have := sz.ly; simp only [lay]; omega, by have := sz.kn; simp only [kn]; omega⟩
  have szI : Sz (c + 1) ⟨[.iff s.said .no], .iff s.said .no, [], []⟩ := ⟨by simp, by have := sz.ly; simp only [lay]; omega, by have := sz.kn; simp only [kn]; omega, by have := sz.ns; show max (nst s.said) (nst .no) = 0; rw [this]; rfl⟩
  have stI : stepP S G (.assume (.iff s.said .no)) = .ok ⟨[.iff s.said .no], .iff s.said .no, [], []⟩ := by rw [stepP]; exact fit_sz szI (by omega)
  have kI : Kept (S ++ [(⟨[.iff s.said .no], .iff s.said .no, [], []⟩ : Seal)]) G (c + 1) (m + 1) := (k.mono (Nat.le_succ c) (Nat.le_refl m)).app (by omega) (by omega) (d := .assume (.iff s.said .no)) hif stI szI (by show G.length ≤ _; omega)
  refine Ends.nx (appRow (s := ⟨[.iff s.said .no], .iff s.said .no, [], []⟩) hS60 rfl rfl) ?_
  simp only [List.set_cons_succ, List.set_cons_zero]
  generalize hS1 : S ++ [(⟨[.iff s.said .no], .iff s.said .no, [], []⟩ : Seal)] = S1 at kI
  have hS1l : S1.length = S.length + 1 := by rw [← hS1, List.length_append, List.length_singleton]
  have hsF : sealG S1 (S.length : Int) = some ⟨[.iff s.said .no], .iff s.said .no, [], []⟩ := by rw [← hS1, sealG_app, if_pos rfl]
  have hsL : sealG S1 last = some s := by rw [← hS1, sealG_app, if_neg (by omega)]; exact hs
  have hl3 : lenM (.list (rowsL S1)) = some (.int ((S.length : Int) + 1)) := by simp only [lenM, rowsL_len, hS1l]; rfl
  refine Ends.nx (ρ' := [.o (hallOb S G), .o (.lst (rowsL S1)), .o (.lst (datas G)), .d (.int seed), .d (.str x), .d (Wd.rel x [.var v]).data, .d (.int way), .d (.int last), .d s.said.data, .d (.int (S.length : Int))]) (by simp only [runF, sSeq, sIf, sRet, sAsg, sNew, sApp, sSkip_ap, sFor, sForZ, mCall, mCons, mNil, mV, mVA, mC, mBin, mUn, mTest, mAndT, mOrT, mNotT, mAnd, mOr, mNot, mBl, bl?, mIf, mTup, mLst, mSl, mSome, mNo, mComp, mIt, mItB, mR1, mR2, mR1c, mZ, mZB, mYes, mkArgs, outs, itemsOf, isO, listM, tupleM, intM, subM_i, ltM_i, leM_i, gtM_i, geM_i, addM, Option.bind_some, Option.bind_none, Option.map_some, Option.map_none, List.length_cons, List.length_nil, List.getElem?_cons_zero, List.getElem?_cons_succ, List.set_cons_zero, List.set_cons_succ, List.cons_append, List.nil_append, List.append_nil, List.replicate, if_true, if_false, Nat.reduceAdd, Nat.reduceSub, Nat.reduceLeDiff, Nat.reduceEqDiff, reduceIte, Bool.false_eq_true, reduceCtorEq, Bool.not_true, Bool.not_false, decide_true, decide_false, id, hl3, Int.add_sub_cancel]) ?_
  have ea := assume_fn k.hh (w := .iff s.said .no) hif
  rw [stI] at ea
  have hid : PyData.tuple [.str "if", s.said.data, .tuple [.str "no"]] = (Wd.iff s.said .no).data := rfl
  refine Ends.nx (ρ' := [.o (hallOb S1 G), .o (.lst (rowsL S1)), .o (.lst (datas G)), .d (.int seed), .d (.str x), .d (Wd.rel x [.var v]).data, .d (.int way), .d (.int last), .d s.said.data, .d (.int (S.length : Int))]) (by
    rw [← hS1]
    exact doM_ok (ds := [(Wd.iff s.said .no).data]) rfl (by decide +kernel) (by decide +kernel) (by simp only [runF, sSeq, sIf, sRet, sAsg, sNew, sApp, sSkip_ap, sFor, sForZ, mCall, mCons, mNil, mV, mVA, mC, mBin, mUn, mTest, mAndT, mOrT, mNotT, mAnd, mOr, mNot, mBl, bl?, mIf, mTup, mLst, mSl, mSome, mNo, mComp, mIt, mItB, mR1, mR2, mR1c, mZ, mZB, mYes, mkArgs, outs, itemsOf, isO, listM, tupleM, lenM, intM, subM_i, ltM_i, leM_i, gtM_i, geM_i, addM, Option.bind_some, Option.bind_none, Option.map_some, Option.map_none, List.length_cons, List.length_nil, List.getElem?_cons_zero, List.getElem?_cons_succ, List.set_cons_zero, List.set_cons_succ, List.cons_append, List.nil_append, List.append_nil, List.replicate, if_true, if_false, Nat.reduceAdd, Nat.reduceSub, Nat.reduceLeDiff, Nat.reduceEqDiff, reduceIte, Bool.false_eq_true, reduceCtorEq, Bool.not_true, Bool.not_false, decide_true, decide_false, id, xE, xCall, xNil, xCons, xSlot, xTup, xUn, xBin, xOut, xFin, slsOf, slOf, dsOf, putB, xT, xTest, xAndT, xOrT, xNotT, sAsgX, sRetX, sDoX, sIfX, sAppX, sExc, sTry, sHds, noEx, sTryAs, wipeO, mIsE, sFz, sPop, negM, mChain, List.nodup_nil, List.all_nil, Bool.and_true, Bool.true_and, hid]; rfl) ea) ?_
  have sz2 : Sz (c + 1) ⟨joinW [.iff s.said .no] s.under, .no, s.bases, [(S.length : Int), last]⟩ := ⟨by have := joinW_len [.iff s.said .no] s.under; have := sz.un; rw [List.length_singleton] at *; show (joinW _ _).length ≤ _; omega, by show lay .no ≤ _; simp only [lay]; omega, by show kn .no ≤ _; simp only [kn]; omega, rfl⟩
  have st2 : stepP S1 G (.apply (S.length : Int) last) = .ok ⟨joinW [.iff s.said .no] s.under, .no, s.bases, [(S.length : Int), last]⟩ := by
    rw [stepP, hsF, hsL]
    dsimp only
    rw [if_pos (weq_refl ok.said.1), List.nil_append, rise_id ok.bas]
    exact fit_sz sz2 (by omega)
  have hix1 := rowsL_ix hsL
  refine Ends.nx (appRow (S := S1) (s := ⟨joinW [.iff s.said .no] s.under, .no, s.bases, [(S.length : Int), last]⟩) (by omega) rfl (by simp only [runF, sSeq, sIf, sRet, sAsg, sNew, sApp, sSkip_ap, sFor, sForZ, mCall, mCons, mNil, mV, mVA, mC, mBin, mUn, mTest, mAndT, mOrT, mNotT, mAnd, mOr, mNot, mBl, bl?, mIf, mTup, mLst, mSl, mSome, mNo, mComp, mIt, mItB, mR1, mR2, mR1c, mZ, mZB, mYes, mkArgs, outs, itemsOf, isO, listM, tupleM, lenM, intM, subM_i, ltM_i, leM_i, gtM_i, geM_i, addM, Option.bind_some, Option.bind_none, Option.map_some, Option.map_none, List.length_cons, List.length_nil, List.getElem?_cons_zero, List.getElem?_cons_succ, List.set_cons_zero, List.set_cons_succ, List.cons_append, List.nil_append, List.append_nil, List.replicate, if_true, if_false, Nat.reduceAdd, Nat.reduceSub, Nat.reduceLeDiff, Nat.reduceEqDiff, reduceIte, Bool.false_eq_true, reduceCtorEq, Bool.not_true, Bool.not_false, decide_true, decide_false, id, hix1, rowD_1]; rfl)) ?_
  have e2 := apply_fn kI.hh (n := (S.length : Int)) (m := last)
  rw [st2] at e2
  refine .last (retM_ok (ds := [.int (S.length : Int), .int last]) rfl (by decide +kernel) (by decide +kernel) rfl e2) ?_
  exact finish (kI.app (by omega) (by omega) (d := .apply (S.length : Int) last) trivial st2 sz2 (by show G.length ≤ _; omega)) (by simp) (by rw [List.length_append, List.length_singleton]; omega) rfl rfl rfl
end
end PL

namespace PL
open PySem PySem.Spec PyProof.Rows L2
open Wd
abbrev HG := List Seal × List Wd
def stK (ns : List Int) (x : Str) (A B : HG) (a b c d e f g : Sl) : Rho := [.b (ns.map .int), .d (.str x), .o (.two (hallOb A.1 A.2) (hallOb B.1 B.2)), .o (.two (.lst (rowsL A.1)) (.lst (rowsL B.1))), .o (.two (.lst (datas A.2)) (.lst (datas B.2))), a, b, c, d, e, f, g]
theorem xCallP_ok {i0 i1 i2 : Nat} {fm : FM} {mp : MP} {ρ ρ' ρ'' : Rho} {as : List XA} {sls : List Sl} {v : PyData} {obs : List Ob} (h1 : mp ρ = some as) (h2 : opn3 i0 i1 i2 ρ = some ρ') (h3 : okA as = true) (h4 : slsOf ρ' as = some sls) (h5 : fm sls = .ret v obs) (h6 : cls3 i0 i1 i2 ρ.length (putB as obs ρ') = some ρ'') :
    xCallP i0 i1 i2 fm mp ρ = .val v ρ'' := by
  unfold xCallP
  rw [h1, h2]
  dsimp only
  rw [h3, h4]
  dsimp only
  rw [h5]
  unfold xFin clsX
  dsimp only
  rw [h6]
section
variable {ns : List Int} {x : Str} {A B : HG} {a b c d e f g : Sl} {mj md mx : ME} {j : Int}
theorem idx_ok {ρ : Rho} (h : mj ρ = some (.int j)) (hj : j = 0 ∨ j = 1) : mIdx mj ρ = some j := by
  unfold mIdx
  rw [h]
  dsimp only
  rw [if_pos hj]
theorem at2_rows (h : mj (stK ns x A B a b c d e f g) = some (.int j)) (hj : j = 0 ∨ j = 1) : mAt2 3 mj (stK ns x A B a b c d e f g) = some (.list (rowsL (itm j A B).1)) := by
  unfold mAt2
  rw [show twoAt (stK ns x A B a b c d e f g) 3 = some (.lst (rowsL A.1), .lst (rowsL B.1)) from rfl, Option.bind_some, idx_ok h hj, Option.bind_some]
  rcases hj with rfl | rfl <;> rfl
theorem at2_ax (h : mj (stK ns x A B a b c d e f g) = some (.int j)) (hj : j = 0 ∨ j = 1) : mAt2 4 mj (stK ns x A B a b c d e f g) = some (.list (datas (itm j A B).2)) := by
  unfold mAt2
  rw [show twoAt (stK ns x A B a b c d e f g) 4 = some (.lst (datas A.2), .lst (datas B.2)) from rfl, Option.bind_some, idx_ok h hj, Option.bind_some]
  rcases hj with rfl | rfl <;> rfl
theorem hall2 (hj : j = 0 ∨ j = 1) : itm j (hallOb A.1 A.2) (hallOb B.1 B.2) = .ins "Hall" (hallFs (itm j A B).1 (itm j A B).2) := by
  rcases hj with rfl | rfl <;> rfl
theorem many2 (h : mj (stK ns x A B a b c d e f g) = some (.int j)) (hj : j = 0 ∨ j = 1) : mMeth2 "Hall" "many" 2 mj Hall_many_m (stK ns x A B a b c d e f g) = some (.int ((itm j A B).1.length : Int)) := by
  unfold mMeth2
  rw [show twoAt (stK ns x A B a b c d e f g) 2 = some (hallOb A.1 A.2, hallOb B.1 B.2) from rfl, Option.bind_some, idx_ok h hj, Option.bind_some]
  dsimp only
  rw [hall2 hj]
  dsimp only
  rw [if_pos ⟨rfl, look_no _ _ (by decide +kernel) (by decide +kernel)⟩]
  show (match Hall_many_m [.r (hallOb (itm j A B).1 (itm j A B).2)] with | .ret d _ => some d | _ => none) = _
  rw [many_fn]
theorem axioms2 (h : mj (stK ns x A B a b c d e f g) = some (.int j)) (hj : j = 0 ∨ j = 1) : mMeth2 "Hall" "axioms" 2 mj Hall_axioms_m (stK ns x A B a b c d e f g) = some (.list (datas (itm j A B).2)) := by
  unfold mMeth2
  rw [show twoAt (stK ns x A B a b c d e f g) 2 = some (hallOb A.1 A.2, hallOb B.1 B.2) from rfl, Option.bind_some, idx_ok h hj, Option.bind_some]
  dsimp only
  rw [hall2 hj]
  dsimp only
  rw [if_pos ⟨rfl, look_no _ _ (by decide +kernel) (by decide +kernel)⟩]
  show (match Hall_axioms_m [.r (hallOb (itm j A B).1 (itm j A B).2)] with | .ret d _ => some d | _ => none) = _
  rw [axioms_fn]
theorem axioms2N (h : mj (stK ns x A B a b c d e f g) = some (.int j)) (hj : j = 0 ∨ j = 1) : mMeth2N "Hall" "axioms" 2 mj Hall_axioms_m (stK ns x A B a b c d e f g) = some (.list (datas (itm j A B).2)) := by
  unfold mMeth2N
  rw [show twoAt (stK ns x A B a b c d e f g) 2 = some (hallOb A.1 A.2, hallOb B.1 B.2) from rfl, Option.bind_some, idx_ok h hj, Option.bind_some]
  dsimp only
  rw [hall2 hj]
  dsimp only
  rw [if_pos ⟨rfl, look_no _ _ (by decide +kernel) (by decide +kernel)⟩]
  show (match Hall_axioms_m [.r (hallOb (itm j A B).1 (itm j A B).2)] with | .ret (.list ds) _ => some (PyData.list ds) | _ => none) = _
  rw [axioms_fn]
theorem call_no {n : Int} (h : mj (stK ns x A B a b c d e f g) = some (.int j)) (hj : j = 0 ∨ j = 1) (hd : md (stK ns x A B a b c d e f g) = some (.int n)) (hs : sealG (itm j A B).1 n = none) :
    xCallP 2 3 4 no_seal_l_m (mpR 0 2 mj (mpD md mpNil)) (stK ns x A B a b c d e f g) = .val (.bool true) (stK ns x A B a b c d e f g) := by
  have hm : mpR 0 2 mj (mpD md mpNil) (stK ns x A B a b c d e f g) = some [.r (12 + 2 * 0 + j.toNat), .d (.int n)] := by
    unfold mpR mpD mpNil
    rw [show twoAt (stK ns x A B a b c d e f g) 2 = some (hallOb A.1 A.2, hallOb B.1 B.2) from rfl, Option.bind_some, idx_ok h hj, Option.bind_some, hd]
    rfl
  have hn := no_seal_fn (G := (itm j A B).2) hs
  rcases hj with rfl | rfl
  · exact xCallP_ok hm rfl rfl rfl hn rfl
  · exact xCallP_ok hm rfl rfl rfl hn rfl
theorem call_right {n : Int} (h : mj (stK ns x A B a b c d e f g) = some (.int j)) (hj : j = 0 ∨ j = 1) (hd : md (stK ns x A B a b c d e f g) = some (.int n)) (hh : HallOk (itm j A B).1 (itm j A B).2) (hg : GivOk (itm j A B).1) (hS : (itm j A B).1.length ≤ 60) (hn : 0 ≤ n ∧ n < ((itm j A B).1.length : Int)) :
    xCallP 2 3 4 right_l_m (mpR 0 2 mj (mpB 1 3 mj (mpD md mpNil))) (stK ns x A B a b c d e f g) = .val (.bool true) (stK ns x A B a b c d e f g) := by
  have hm : mpR 0 2 mj (mpB 1 3 mj (mpD md mpNil)) (stK ns x A B a b c d e f g) = some [.r (12 + 2 * 0 + j.toNat), .b (12 + 2 * 1 + j.toNat), .d (.int n)] := by
    unfold mpR mpB mpD mpNil
    rw [show twoAt (stK ns x A B a b c d e f g) 2 = some (hallOb A.1 A.2, hallOb B.1 B.2) from rfl, show twoAt (stK ns x A B a b c d e f g) 3 = some (.lst (rowsL A.1), .lst (rowsL B.1)) from rfl, Option.bind_some, idx_ok h hj, Option.bind_some, Option.bind_some, Option.bind_some, hd]
    rfl
  have hn := right_fn hh hg hS hn
  rcases hj with rfl | rfl
  · exact xCallP_ok hm rfl rfl rfl hn rfl
  · exact xCallP_ok hm rfl rfl rfl hn rfl
theorem call_more {n : Int} {cc m : Nat} (hx : Nm x) (h : mj (stK ns x A B a b c d e f g) = some (.int j)) (hj : j = 0 ∨ j = 1) (hd : md (stK ns x A B a b c d e f g) = some (.int n)) (kA : Kept A.1 A.2 cc m) (kB : Kept B.1 B.2 cc m) (hc : cc ≤ 12) (hm : m ≤ 30) :
    ∃ A' B' : HG, xCallP 2 3 4 more_l_m (mpO 0 2 mj (mpO 1 3 mj (mpO 2 4 mj (mpD md (mpD (mV 1) mpNil))))) (stK ns x A B a b c d e f g) = .val (.int (((itm j A' B').1.length : Int) - 1)) (stK ns x A' B' a b c d e f g) ∧ Kept A'.1 A'.2 (cc + 1) (m + 2) ∧ Kept B'.1 B'.2 (cc + 1) (m + 2) := by
  have hmp : mpO 0 2 mj (mpO 1 3 mj (mpO 2 4 mj (mpD md (mpD (mV 1) mpNil)))) (stK ns x A B a b c d e f g) = some [.o (12 + 2 * 0 + j.toNat), .o (12 + 2 * 1 + j.toNat), .o (12 + 2 * 2 + j.toNat), .d (.int n), .d (.str x)] := by
    unfold mpO mpD mpNil
    rw [show twoAt (stK ns x A B a b c d e f g) 2 = some (hallOb A.1 A.2, hallOb B.1 B.2) from rfl, show twoAt (stK ns x A B a b c d e f g) 3 = some (.lst (rowsL A.1), .lst (rowsL B.1)) from rfl, show twoAt (stK ns x A B a b c d e f g) 4 = some (.lst (datas A.2), .lst (datas B.2)) from rfl, Option.bind_some, idx_ok h hj, Option.bind_some, Option.bind_some, Option.bind_some, Option.bind_some, Option.bind_some, hd]
    rfl
  rcases hj with rfl | rfl
  · obtain ⟨S, G, e, k, hp⟩ := more_l_fn hx kA hc hm n
    exact ⟨(S, G), B, xCallP_ok hmp rfl rfl rfl e rfl, k, kB.mono (by omega) (by omega)⟩
  · obtain ⟨S, G, e, k, hp⟩ := more_l_fn hx kB hc hm n
    exact ⟨A, (S, G), xCallP_ok hmp rfl rfl rfl e rfl, kA.mono (by omega) (by omega), k⟩
end
theorem itm_kept {A B : HG} {cc m : Nat} (j : Int) (kA : Kept A.1 A.2 cc m) (kB : Kept B.1 B.2 cc m) : Kept (itm j A B).1 (itm j A B).2 cc m := by
  unfold itm
  split
  · exact kA
  · exact kB
theorem law_k11_true (ns : List Int) (_ : ns.length ≤ 63) : ∃ obs, law_k11_m [.b (ns.map .int)] = .ret (.bool true) obs := by
  obtain ⟨c0, e0⟩ := cell_fn ns (i := 0) (by decide)
  obtain ⟨x, en, hx⟩ := name_fn c0
  obtain ⟨cs, ecs, hcs⟩ := cut_ints (ns := ns) (lo := 1) (hi := 11)
  have ecs : slM (.list (ns.map .int)) (some 1) (some 11) = some (.list (cs.map .int)) := ecs
  rw [law_k11_m]
  refine law_yes ?_
  refine Ends.nx (ρ' := [.b (ns.map .int), .d (.str x), .nil, .nil, .nil, .nil, .nil, .nil, .nil, .nil, .nil, .nil]) (by simp only [runF, sSeq, sIf, sRet, sAsg, sNew, sApp, sSkip_ap, sFor, sForZ, mCall, mCons, mNil, mV, mVA, mC, mBin, mUn, mTest, mAndT, mOrT, mNotT, mAnd, mOr, mNot, mBl, bl?, mIf, mTup, mLst, mSl, mSome, mNo, mComp, mIt, mItB, mR1, mR2, mR1c, mZ, mZB, mYes, mkArgs, outs, itemsOf, isO, listM, tupleM, lenM, intM, subM_i, ltM_i, leM_i, gtM_i, geM_i, addM, Option.bind_some, Option.bind_none, Option.map_some, Option.map_none, List.length_cons, List.length_nil, List.getElem?_cons_zero, List.getElem?_cons_succ, List.set_cons_zero, List.set_cons_succ, List.cons_append, List.nil_append, List.append_nil, List.replicate, if_true, if_false, Nat.reduceAdd, Nat.reduceSub, Nat.reduceLeDiff, Nat.reduceEqDiff, reduceIte, Bool.false_eq_true, reduceCtorEq, Bool.not_true, Bool.not_false, decide_true, decide_false, id, e0, en]) ?_
  refine Ends.nx (ρ' := [.b (ns.map .int), .d (.str x), .o (.two (hallOb [] []) (hallOb [] [])), .nil, .nil, .nil, .nil, .nil, .nil, .nil, .nil, .nil]) (by unfold sMk2; rw [if_neg (by simp [isO]), init_fn]; rfl) ?_
  refine Ends.nx (ρ' := [.b (ns.map .int), .d (.str x), .o (.two (hallOb [] []) (hallOb [] [])), .o (.two (.lst []) (.lst [])), .nil, .nil, .nil, .nil, .nil, .nil, .nil, .nil]) (by unfold sTwoL; rw [if_neg (by simp [isO])]; rfl) ?_
  refine Ends.nx (ρ' := stK ns x ([], []) ([], []) .nil .nil .nil .nil .nil .nil .nil) (by unfold sTwoL; rw [if_neg (by simp [isO])]; rfl) ?_
  refine Ends.go (fun _ => True) ?_ (fun ρ _ => Ends.yes rfl)
  refine Ends.forE (g := PyData.int) (all := cs) (fun vs ρ => ∃ (A B : HG) (a b c d e f g : Sl), ρ = stK ns x A B a b c d e f g ∧ (isO (some a) = false ∧ isO (some b) = false ∧ isO (some c) = false ∧ isO (some d) = false ∧ isO (some e) = false ∧ isO (some f) = false ∧ isO (some g) = false) ∧ Kept A.1 A.2 vs.length (2 * vs.length) ∧ Kept B.1 B.2 vs.length (2 * vs.length))
    (by unfold stK; simp only [runF, sSeq, sIf, sRet, sAsg, sNew, sApp, sSkip_ap, sFor, sForZ, mCall, mCons, mNil, mV, mVA, mC, mBin, mUn, mTest, mAndT, mOrT, mNotT, mAnd, mOr, mNot, mBl, bl?, mIf, mTup, mLst, mSl, mSome, mNo, mComp, mIt, mItB, mR1, mR2, mR1c, mZ, mZB, mYes, mkArgs, outs, itemsOf, isO, listM, tupleM, lenM, intM, subM_i, ltM_i, leM_i, gtM_i, geM_i, addM, Option.bind_some, Option.bind_none, Option.map_some, Option.map_none, List.length_cons, List.length_nil, List.getElem?_cons_zero, List.getElem?_cons_succ, List.set_cons_zero, List.set_cons_succ, List.cons_append, List.nil_append, List.append_nil, List.replicate, if_true, if_false, Nat.reduceAdd, Nat.reduceSub, Nat.reduceLeDiff, Nat.reduceEqDiff, reduceIte, Bool.false_eq_true, reduceCtorEq, Bool.not_true, Bool.not_false, decide_true, decide_false, id, ecs]) ⟨([], []), ([], []), _, _, _, _, _, _, _, rfl, ⟨rfl, rfl, rfl, rfl, rfl, rfl, rfl⟩, .nil, .nil⟩ ?_ (fun ρ _ => ⟨ρ, rfl, trivial⟩)
  rintro vs cell us ρ evs ⟨A, B, a, b, c, d, e, f, g, rfl, ⟨ha, hb, hc, hd, he, hf, hg⟩, kA, kB⟩
  have hvs := congrArg List.length evs
  rw [List.length_append, List.length_cons] at hvs
  have hv9 : vs.length ≤ 9 := by omega
  refine ⟨ha, ?_⟩
  have set5 : ∀ s, (stK ns x A B a b c d e f g).set 5 s = stK ns x A B s b c d e f g := fun s => rfl
  rw [set5]
  refine Ends.mono (Q := fun o => ∃ ρ', o = .nx ρ' ∧ ∃ (A B : HG) (a b c d e f g : Sl), ρ' = stK ns x A B a b c d e f g ∧ (isO (some a) = false ∧ isO (some b) = false ∧ isO (some c) = false ∧ isO (some d) = false ∧ isO (some e) = false ∧ isO (some f) = false ∧ isO (some g) = false) ∧ Kept A.1 A.2 (vs.length + 1) (2 * vs.length + 2) ∧ Kept B.1 B.2 (vs.length + 1) (2 * vs.length + 2)) ?_ (fun o h => by
    obtain ⟨ρ', e, h⟩ := h
    refine .inl ⟨ρ', .inl e, ?_⟩
    rw [List.length_append, List.length_singleton]
    exact h)
  have asg : ∀ {i : Nat} {m : ME} {ρ : Rho} {d : PyData}, m ρ = some d → isO ρ[i]? = false → sAsg i m ρ = .nx (ρ.set i (.d d)) := fun {i m ρ d} h ho => by
    unfold sAsg
    rw [h]
    split
    · rename_i e; rw [e] at ho; cases ho
    · rfl
  have nx := next_fn cell
  refine Ends.nx (ρ' := stK ns x A B (.d (.int cell)) (.d (.int (nextI cell))) c d e f g) (asg (by unfold stK; simp only [runF, sSeq, sIf, sRet, sAsg, sNew, sApp, sSkip_ap, sFor, sForZ, mCall, mCons, mNil, mV, mVA, mC, mBin, mUn, mTest, mAndT, mOrT, mNotT, mAnd, mOr, mNot, mBl, bl?, mIf, mTup, mLst, mSl, mSome, mNo, mComp, mIt, mItB, mR1, mR2, mR1c, mZ, mZB, mYes, mkArgs, outs, itemsOf, isO, listM, tupleM, lenM, intM, subM_i, ltM_i, leM_i, gtM_i, geM_i, addM, Option.bind_some, Option.bind_none, Option.map_some, Option.map_none, List.length_cons, List.length_nil, List.getElem?_cons_zero, List.getElem?_cons_succ, List.set_cons_zero, List.set_cons_succ, List.cons_append, List.nil_append, List.append_nil, List.replicate, if_true, if_false, Nat.reduceAdd, Nat.reduceSub, Nat.reduceLeDiff, Nat.reduceEqDiff, reduceIte, Bool.false_eq_true, reduceCtorEq, Bool.not_true, Bool.not_false, decide_true, decide_false, id, nx]) hb) ?_
  generalize nextI cell = seed
  have m2 := mod_ok (i := seed) (j := 2) (by decide)
  obtain ⟨side, hside, hs01⟩ : ∃ side, seed % 2 = side ∧ (side = 0 ∨ side = 1) := ⟨_, rfl, by omega⟩
  rw [hside] at m2
  refine Ends.nx (ρ' := stK ns x A B (.d (.int cell)) (.d (.int seed)) (.d (.int side)) d e f g) (asg (by unfold stK; simp only [runF, sSeq, sIf, sRet, sAsg, sNew, sApp, sSkip_ap, sFor, sForZ, mCall, mCons, mNil, mV, mVA, mC, mBin, mUn, mTest, mAndT, mOrT, mNotT, mAnd, mOr, mNot, mBl, bl?, mIf, mTup, mLst, mSl, mSome, mNo, mComp, mIt, mItB, mR1, mR2, mR1c, mZ, mZB, mYes, mkArgs, outs, itemsOf, isO, listM, tupleM, lenM, intM, subM_i, ltM_i, leM_i, gtM_i, geM_i, addM, Option.bind_some, Option.bind_none, Option.map_some, Option.map_none, List.length_cons, List.length_nil, List.getElem?_cons_zero, List.getElem?_cons_succ, List.set_cons_zero, List.set_cons_succ, List.cons_append, List.nil_append, List.append_nil, List.replicate, if_true, if_false, Nat.reduceAdd, Nat.reduceSub, Nat.reduceLeDiff, Nat.reduceEqDiff, reduceIte, Bool.false_eq_true, reduceCtorEq, Bool.not_true, Bool.not_false, decide_true, decide_false, id, m2]) hc) ?_
  have kS := itm_kept side kA kB
  have rl : ∀ S : List Seal, lenM (.list (rowsL S)) = some (.int (S.length : Int)) := fun S => by simp only [lenM, rowsL_len]
  refine Ends.nx (ρ' := stK ns x A B (.d (.int cell)) (.d (.int seed)) (.d (.int side)) (.d (.int ((itm side A B).1.length : Int))) e f g) (asg (by
    unfold mUn
    rw [at2_rows (j := side) rfl hs01, Option.bind_some, rl]) hd) ?_
  have sn1 : sealG (itm side A B).1 ((itm side A B).1.length : Int) = none := by
    unfold sealG
    rw [if_pos (by omega), Int.toNat_natCast]
    exact List.getElem?_eq_none (Nat.le_refl _)
  have d2 := div_ok (i := seed) (j := 2) (by decide) (by decide)
  have m3 := mod_ok (i := seed / 2) (j := 3) (by decide)
  have b0 : 0 ≤ seed / 2 % 3 := Int.emod_nonneg _ (by decide)
  have sn2 : sealG (itm side A B).1 (-1 - seed / 2 % 3) = none := by
    unfold sealG
    rw [if_neg (by omega)]
  have c1 := call_no (ns := ns) (x := x) (A := A) (B := B) (a := .d (.int cell)) (b := .d (.int seed)) (c := .d (.int side)) (d := .d (.int ((itm side A B).1.length : Int))) (e := e) (f := f) (g := g) (mj := mV 7) (md := mV 8) (j := side) rfl hs01 rfl sn1
  have c2 := call_no (ns := ns) (x := x) (A := A) (B := B) (a := .d (.int cell)) (b := .d (.int seed)) (c := .d (.int side)) (d := .d (.int ((itm side A B).1.length : Int))) (e := e) (f := f) (g := g) (mj := mV 7) (md := mBin subM (mUn negM (mC (.int 1))) (mBin modM (mBin divM (mV 6) (mC (.int 2))) (mC (.int 3)))) (j := side) rfl hs01 (by unfold stK; simp only [runF, sSeq, sIf, sRet, sAsg, sNew, sApp, sSkip_ap, sFor, sForZ, mCall, mCons, mNil, mV, mVA, mC, mBin, mUn, mTest, mAndT, mOrT, mNotT, mAnd, mOr, mNot, mBl, bl?, mIf, mTup, mLst, mSl, mSome, mNo, mComp, mIt, mItB, mR1, mR2, mR1c, mZ, mZB, mYes, mkArgs, outs, itemsOf, isO, listM, tupleM, lenM, intM, subM_i, ltM_i, leM_i, gtM_i, geM_i, addM, Option.bind_some, Option.bind_none, Option.map_some, Option.map_none, List.length_cons, List.length_nil, List.getElem?_cons_zero, List.getElem?_cons_succ, List.set_cons_zero, List.set_cons_succ, List.cons_append, List.nil_append, List.append_nil, List.replicate, if_true, if_false, Nat.reduceAdd, Nat.reduceSub, Nat.reduceLeDiff, Nat.reduceEqDiff, reduceIte, Bool.false_eq_true, reduceCtorEq, Bool.not_true, Bool.not_false, decide_true, decide_false, id, negM, d2, m3]) sn2
  refine Ends.nx (ρ' := stK ns x A B (.d (.int cell)) (.d (.int seed)) (.d (.int side)) (.d (.int ((itm side A B).1.length : Int))) e f g) (by
    unfold sIfX xOrT xNotT xTest
    rw [c1]
    simp only [Bool.not_true]
    rw [c2]
    rfl) ?_
  have d8 := div_ok (i := seed) (j := 8) (by decide) (by decide)
  obtain ⟨A', B', c3, kA', kB'⟩ := call_more (ns := ns) (x := x) (A := A) (B := B) (a := .d (.int cell)) (b := .d (.int seed)) (c := .d (.int side)) (d := .d (.int ((itm side A B).1.length : Int))) (e := e) (f := f) (g := g) (mj := mV 7) (md := mBin divM (mV 6) (mC (.int 8))) (j := side) (n := seed / 8) hx rfl hs01 (by unfold stK; simp only [runF, sSeq, sIf, sRet, sAsg, sNew, sApp, sSkip_ap, sFor, sForZ, mCall, mCons, mNil, mV, mVA, mC, mBin, mUn, mTest, mAndT, mOrT, mNotT, mAnd, mOr, mNot, mBl, bl?, mIf, mTup, mLst, mSl, mSome, mNo, mComp, mIt, mItB, mR1, mR2, mR1c, mZ, mZB, mYes, mkArgs, outs, itemsOf, isO, listM, tupleM, lenM, intM, subM_i, ltM_i, leM_i, gtM_i, geM_i, addM, Option.bind_some, Option.bind_none, Option.map_some, Option.map_none, List.length_cons, List.length_nil, List.getElem?_cons_zero, List.getElem?_cons_succ, List.set_cons_zero, List.set_cons_succ, List.cons_append, List.nil_append, List.append_nil, List.replicate, if_true, if_false, Nat.reduceAdd, Nat.reduceSub, Nat.reduceLeDiff, Nat.reduceEqDiff, reduceIte, Bool.false_eq_true, reduceCtorEq, Bool.not_true, Bool.not_false, decide_true, decide_false, id, d8]) kA kB (by omega) (by omega)
  refine Ends.nx (ρ' := stK ns x A' B' (.d (.int cell)) (.d (.int seed)) (.d (.int side)) (.d (.int ((itm side A B).1.length : Int))) (.d (.int (((itm side A' B').1.length : Int) - 1))) f g) (asgX_ok c3 he) ?_
  generalize hd' : (Sl.d (.int ((itm side A B).1.length : Int))) = d' at *
  replace hd' : isO (some d') = false := by rw [← hd']; rfl
  clear c1 c2 c3 sn1 sn2 kS
  have a2 := at2_rows (ns := ns) (x := x) (A := A') (B := B') (a := .d (.int cell)) (b := .d (.int seed)) (c := .d (.int side)) (d := d') (e := .d (.int (((itm side A' B').1.length : Int) - 1))) (f := f) (g := g) (mj := mV 7) (j := side) rfl hs01
  refine Ends.no (by
    have w := whole_fn (((itm side A' B').1.length : Int) - 1)
    have v9 : mV 9 (stK ns x A' B' (.d (.int cell)) (.d (.int seed)) (.d (.int side)) d' (.d (.int (((itm side A' B').1.length : Int) - 1))) f g) = some (.int (((itm side A' B').1.length : Int) - 1)) := rfl
    simp only [mNotT, mTest, mCall, mCons, mNil, mBin, mUn, mC, a2, v9, rl, subM_i, mkArgs, w, Option.bind_some, Option.map_some, bl?, Bool.not_true]) ?_
  generalize he' : (Sl.d (.int (((itm side A' B').1.length : Int) - 1))) = e' at *
  replace he' : isO (some e') = false := by rw [← he']; rfl
  have l2 : (2 : Int) < 2 ^ 62 ∧ -2 ^ 62 ≤ (2 : Int) := by decide
  refine Ends.forR (lo := 0) (n := 2) (fun _ ρ => ∃ (f g : Sl), ρ = stK ns x A' B' (.d (.int cell)) (.d (.int seed)) (.d (.int side)) d' e' f g ∧ isO (some f) = false ∧ isO (some g) = false) (by unfold mR1 mC; dsimp only; rw [if_pos l2]; rfl) ⟨f, g, rfl, hf, hg⟩ ?_ ?_
  · rintro k ρ hk ⟨f, g, rfl, hf, hg⟩
    refine ⟨hf, ?_⟩
    rw [Int.zero_add]
    have hk01 : (k : Int) = 0 ∨ (k : Int) = 1 := by omega
    generalize (k : Int) = k at hk01
    have kS := itm_kept k kA' kB'
    have set10 : (stK ns x A' B' (.d (.int cell)) (.d (.int seed)) (.d (.int side)) d' e' f g).set 10 (.d (.int k)) = stK ns x A' B' (.d (.int cell)) (.d (.int seed)) (.d (.int side)) d' e' (.d (.int k)) g := rfl
    rw [set10]
    have a3 := at2_rows (ns := ns) (x := x) (A := A') (B := B') (a := .d (.int cell)) (b := .d (.int seed)) (c := .d (.int side)) (d := d') (e := e') (f := .d (.int k)) (g := g) (mj := mV 10) (j := k) rfl hk01
    obtain ⟨q, hq, hq0, hq1⟩ : ∃ q : Int, maxM (.int 1) (.int ((itm k A' B').1.length : Int)) = some (.int q) ∧ 0 < q ∧ (0 < (itm k A' B').1.length → q = ((itm k A' B').1.length : Int)) := by
      refine ⟨if ((itm k A' B').1.length : Int) > 1 then ((itm k A' B').1.length : Int) else 1, rfl, ?_, fun h => ?_⟩
      · split <;> omega
      · split <;> omega
    have d16 := div_ok (i := seed) (j := 16) (by decide) (by decide)
    have m16 := mod_ok (i := seed / 16) (j := q) hq0
    obtain ⟨last, hlast, hl0, hl1⟩ : ∃ last, seed / 16 % q = last ∧ 0 ≤ last ∧ last < q := ⟨_, rfl, Int.emod_nonneg _ (by omega), Int.emod_lt_of_pos _ hq0⟩
    rw [hlast] at m16
    have v6 : mV 6 (stK ns x A' B' (.d (.int cell)) (.d (.int seed)) (.d (.int side)) d' e' (.d (.int k)) g) = some (.int seed) := rfl
    refine Ends.nx (ρ' := stK ns x A' B' (.d (.int cell)) (.d (.int seed)) (.d (.int side)) d' e' (.d (.int k)) (.d (.int last))) (asg (by simp only [mBin, mUn, mC, v6, a3, rl, hq, d16, m16, Option.bind_some]) hg) ?_
    have a4 := at2_rows (ns := ns) (x := x) (A := A') (B := B') (a := .d (.int cell)) (b := .d (.int seed)) (c := .d (.int side)) (d := d') (e := e') (f := .d (.int k)) (g := .d (.int last)) (mj := mV 10) (j := k) rfl hk01
    have a5 := at2_ax (ns := ns) (x := x) (A := A') (B := B') (a := .d (.int cell)) (b := .d (.int seed)) (c := .d (.int side)) (d := d') (e := e') (f := .d (.int k)) (g := .d (.int last)) (mj := mV 10) (j := k) rfl hk01
    have a6 := many2 (ns := ns) (x := x) (A := A') (B := B') (a := .d (.int cell)) (b := .d (.int seed)) (c := .d (.int side)) (d := d') (e := e') (f := .d (.int k)) (g := .d (.int last)) (mj := mV 10) (j := k) rfl hk01
    have a7 := axioms2 (ns := ns) (x := x) (A := A') (B := B') (a := .d (.int cell)) (b := .d (.int seed)) (c := .d (.int side)) (d := d') (e := e') (f := .d (.int k)) (g := .d (.int last)) (mj := mV 10) (j := k) rfl hk01
    have a8 := axioms2N (ns := ns) (x := x) (A := A') (B := B') (a := .d (.int cell)) (b := .d (.int seed)) (c := .d (.int side)) (d := d') (e := e') (f := .d (.int k)) (g := .d (.int last)) (mj := mV 10) (j := k) rfl hk01
    have htest : mTest (mBin gtM (mUn lenM (mAt2 3 (mV 10))) (mC (.int 0))) (stK ns x A' B' (.d (.int cell)) (.d (.int seed)) (.d (.int side)) d' e' (.d (.int k)) (.d (.int last))) = some (decide ((0 : Int) < ((itm k A' B').1.length : Int))) := by
      simp only [mTest, mBin, mUn, mC, a4, rl, gtM_i, bl?, Option.bind_some]
    refine Ends.nx (ρ' := stK ns x A' B' (.d (.int cell)) (.d (.int seed)) (.d (.int side)) d' e' (.d (.int k)) (.d (.int last))) (by
      by_cases hp : 0 < (itm k A' B').1.length
      · have hql := hq1 hp
        have cr := call_right (ns := ns) (x := x) (A := A') (B := B') (a := .d (.int cell)) (b := .d (.int seed)) (c := .d (.int side)) (d := d') (e := e') (f := .d (.int k)) (g := .d (.int last)) (mj := mV 10) (md := mV 11) (j := k) (n := last) rfl hk01 rfl kS.hh kS.hg (by have := kS.ln; omega) (by omega)
        rw [decide_eq_true (show (0 : Int) < ((itm k A' B').1.length : Int) by omega)] at htest
        unfold sIfX xAndT xT xNotT xTest
        rw [htest]
        dsimp only
        rw [cr]
        rfl
      · rw [decide_eq_false (show ¬ (0 : Int) < ((itm k A' B').1.length : Int) by omega)] at htest
        unfold sIfX xAndT xT
        rw [htest]
        rfl) ?_
    refine Ends.no (by
      have w := whole_fn ((itm k A' B').1.length : Int)
      simp only [mNotT, mTest, mCall, mCons, mNil, mUn, a4, a6, rl, mkArgs, w, Option.bind_some, Option.map_some, bl?, Bool.not_true]) ?_
    refine Ends.no (by
      have w := words_likeB (ws := (itm k A' B').2) fun w hw => (kS.hh.grnd w hw).1
      simp only [mNotT, mTest, mCall, mCons, mNil, a5, a7, mkArgs, w, Option.bind_some, Option.map_some, bl?, Bool.not_true]) ?_
    have hz : (datas (itm k A' B').2).length < sizeLine := by have := kS.gl; rw [datas_len, sizeLine_eq]; omega
    refine .last (o := .nx (stK ns x A' B' (.d (.int cell)) (.d (.int seed)) (.d (.int side)) d' e' (.d (.int k)) (.d (.int last)))) ?_ ⟨_, rfl, _, _, rfl, rfl, rfl⟩
    unfold sAppNew
    rw [a8, show mTup (mCons (mC (.str "no")) mNil) (stK ns x A' B' (.d (.int cell)) (.d (.int seed)) (.d (.int side)) d' e' (.d (.int k)) (.d (.int last))) = some (.tuple [.str "no"]) from rfl]
    dsimp only
    rw [if_pos hz]
  · rintro ρ ⟨f, g, rfl, hf, hg⟩
    exact ⟨_, rfl, A', B', _, _, _, d', e', f, g, rfl, ⟨rfl, rfl, rfl, hd', he', hf, hg⟩, kA', kB'⟩
end PL

namespace Lw
open PySem PySem.Spec PyProof.Rows L2 PL
def top (i : Nat) : Stmt := PySem.Challenge.pw_surehall_k11_kept.main.body.getD i (.Pass ⟨0, 0, 0, 0⟩)
def fn : List He.DefD := (([⟨("_wall", none), "_wall", "_wall", defArgs (top 0), defBody (top 0), defScope (top 0), [], []⟩,
  ⟨("parts_of", none), "parts_of", "parts_of", defArgs (top 9), defBody (top 9), defScope (top 9), [], []⟩,
  ⟨("with_parts", none), "with_parts", "with_parts", defArgs (top 10), defBody (top 10), defScope (top 10), [], []⟩,
  ⟨("inward", none), "inward", "inward", defArgs (top 11), defBody (top 11), defScope (top 11), [], []⟩,
  ⟨("knots", none), "knots", "knots", defArgs (top 12), defBody (top 12), defScope (top 12), [], []⟩,
  ⟨("layers", none), "layers", "layers", defArgs (top 13), defBody (top 13), defScope (top 13), [], []⟩,
  ⟨("nested", none), "nested", "nested", defArgs (top 14), defBody (top 14), defScope (top 14), [], []⟩,
  ⟨("fair", none), "fair", "fair", defArgs (top 15), defBody (top 15), defScope (top 15), [], []⟩,
  ⟨("raised", none), "raised", "raised", defArgs (top 16), defBody (top 16), defScope (top 16), [], []⟩,
  ⟨("put_within", none), "put_within", "put_within", defArgs (top 17), defBody (top 17), defScope (top 17), [], []⟩,
  ⟨("put", none), "put", "put", defArgs (top 18), defBody (top 18), defScope (top 18), [], []⟩,
  ⟨("all_bound", none), "all_bound", "all_bound", defArgs (top 19), defBody (top 19), defScope (top 19), [], []⟩,
  ⟨("without", none), "without", "without", defArgs (top 21), defBody (top 21), defScope (top 21), [], []⟩,
  ⟨("joined", none), "joined", "joined", defArgs (top 22), defBody (top 22), defScope (top 22), [], []⟩,
  ⟨("together", none), "together", "together", defArgs (top 23), defBody (top 23), defScope (top 23), [], []⟩,
  ⟨("_law_cell_at", none), "_law_cell_at", "_law_cell_at", defArgs (top 26), defBody (top 26), defScope (top 26), [], []⟩,
  ⟨("_law_next", none), "_law_next", "_law_next", defArgs (top 27), defBody (top 27), defScope (top 27), [], []⟩,
  ⟨("_law_name_by", none), "_law_name_by", "_law_name_by", defArgs (top 28), defBody (top 28), defScope (top 28), [], []⟩,
  ⟨("_law_like", none), "_law_like", "_law_like", defArgs (top 29), defBody (top 29), defScope (top 29), [], []⟩,
  ⟨("_law_rows_like", none), "_law_rows_like", "_law_rows_like", defArgs (top 30), defBody (top 30), defScope (top 30), [], []⟩,
  ⟨("_law_whole", none), "_law_whole", "_law_whole", defArgs (top 31), defBody (top 31), defScope (top 31), [], []⟩,
  ⟨("_law_stood", none), "_law_stood", "_law_stood", defArgs (top 32), defBody (top 32), defScope (top 32), [], []⟩,
  ⟨("_law_no_seal", none), "_law_no_seal", "_law_no_seal", defArgs (top 33), defBody (top 33), defScope (top 33), [], []⟩,
  ⟨("_law_more", none), "_law_more", "_law_more", defArgs (top 34), defBody (top 34), defScope (top 34), [], []⟩,
  ⟨("_law_right", none), "_law_right", "_law_right", defArgs (top 35), defBody (top 35), defScope (top 35), [], []⟩,
  ⟨("law", none), "law", "law", defArgs (top 36), defBody (top 36), defScope (top 36), [], []⟩,
  ⟨("Hall", some "__init__"), "__init__", "Hall.__init__", defArgs (inClass (top 24) 0), defBody (inClass (top 24) 0), defScope (inClass (top 24) 0), [], []⟩,
  ⟨("Hall", some "many"), "many", "Hall.many", defArgs (inClass (top 24) 1), defBody (inClass (top 24) 1), defScope (inClass (top 24) 1), [], []⟩,
  ⟨("Hall", some "seal_at"), "seal_at", "Hall.seal_at", defArgs (inClass (top 24) 2), defBody (inClass (top 24) 2), defScope (inClass (top 24) 2), [], []⟩,
  ⟨("Hall", some "sealed"), "sealed", "Hall.sealed", defArgs (inClass (top 24) 3), defBody (inClass (top 24) 3), defScope (inClass (top 24) 3), [], []⟩] : List He.DefD) ++ ([⟨("Hall", some "assume"), "assume", "Hall.assume", defArgs (inClass (top 24) 4), defBody (inClass (top 24) 4), defScope (inClass (top 24) 4), [], []⟩,
  ⟨("Hall", some "drop"), "drop", "Hall.drop", defArgs (inClass (top 24) 5), defBody (inClass (top 24) 5), defScope (inClass (top 24) 5), [], []⟩,
  ⟨("Hall", some "apply"), "apply", "Hall.apply", defArgs (inClass (top 24) 6), defBody (inClass (top 24) 6), defScope (inClass (top 24) 6), [], []⟩,
  ⟨("Hall", some "clash"), "clash", "Hall.clash", defArgs (inClass (top 24) 7), defBody (inClass (top 24) 7), defScope (inClass (top 24) 7), [], []⟩,
  ⟨("Hall", some "every"), "every", "Hall.every", defArgs (inClass (top 24) 8), defBody (inClass (top 24) 8), defScope (inClass (top 24) 8), [], []⟩,
  ⟨("Hall", some "one"), "one", "Hall.one", defArgs (inClass (top 24) 9), defBody (inClass (top 24) 9), defScope (inClass (top 24) 9), [], []⟩,
  ⟨("Hall", some "alike"), "alike", "Hall.alike", defArgs (inClass (top 24) 10), defBody (inClass (top 24) 10), defScope (inClass (top 24) 10), [], []⟩,
  ⟨("Hall", some "swap"), "swap", "Hall.swap", defArgs (inClass (top 24) 11), defBody (inClass (top 24) 11), defScope (inClass (top 24) 11), [], []⟩,
  ⟨("Hall", some "more"), "more", "Hall.more", defArgs (inClass (top 24) 12), defBody (inClass (top 24) 12), defScope (inClass (top 24) 12), [], []⟩,
  ⟨("Hall", some "axiom"), "axiom", "Hall.axiom", defArgs (inClass (top 24) 13), defBody (inClass (top 24) 13), defScope (inClass (top 24) 13), [], []⟩,
  ⟨("Hall", some "axioms"), "axioms", "Hall.axioms", defArgs (inClass (top 24) 14), defBody (inClass (top 24) 14), defScope (inClass (top 24) 14), [], []⟩,
  ⟨("Hall", some "told"), "told", "Hall.told", defArgs (inClass (top 24) 15), defBody (inClass (top 24) 15), defScope (inClass (top 24) 15), [], []⟩,
  ⟨("Hall", some "bases"), "bases", "Hall.bases", defArgs (inClass (top 24) 16), defBody (inClass (top 24) 16), defScope (inClass (top 24) 16), [], []⟩,
  ⟨("Hall", some "stood"), "stood", "Hall.stood", defArgs (inClass (top 24) 17), defBody (inClass (top 24) 17), defScope (inClass (top 24) 17), [], []⟩] : List He.DefD))
def fa : List He.Fa := (([.glo "_wall",
  .glo "parts_of",
  .glo "with_parts",
  .glo "inward",
  .glo "knots",
  .glo "layers",
  .glo "nested",
  .glo "fair",
  .glo "raised",
  .glo "put_within",
  .glo "put",
  .glo "all_bound",
  .glo "without",
  .glo "joined",
  .glo "together",
  .glo "_law_cell_at",
  .glo "_law_next",
  .glo "_law_name_by",
  .glo "_law_like",
  .glo "_law_rows_like",
  .glo "_law_whole",
  .glo "_law_stood",
  .glo "_law_no_seal",
  .glo "_law_more",
  .glo "_law_right",
  .glo "law",
  .free "list",
  .free "max",
  .free "sorted",
  .free "set"] : List He.Fa) ++ ([.free "len",
  .free "range",
  .free "isinstance",
  .free "tuple",
  .free "zip",
  .free "str",
  .free "int",
  .free "bool",
  .free "ValueError",
  .glo "HallError",
  .glo "NoSeal",
  .glo "Unfit",
  .glo "TooLarge",
  .glo "NoThing",
  .glo "NoWord",
  .exc "NoSeal",
  .exc "TooLarge",
  .exc "Unfit",
  .glo "Hall",
  .cls "Hall",
  .mkr "Hall",
  .noat "Hall" "seals",
  .noat "Hall" "ground",
  .meth "Hall" "seal_at",
  .meth "Hall" "told",
  .meth "Hall" "bases",
  .meth "Hall" "stood",
  .meth "Hall" "sealed",
  .meth "Hall" "assume",
  .meth "Hall" "apply"] : List He.Fa) ++ ([.meth "Hall" "axiom",
  .meth "Hall" "drop",
  .meth "Hall" "more",
  .meth "Hall" "many",
  .meth "Hall" "axioms"] : List He.Fa))
structure Tx (K : PySem.W.Frag) (mg : Str → Option Value) : Prop where
  list : mg "list" = none
  max : mg "max" = none
  sorted : mg "sorted" = none
  set : mg "set" = none
  len : mg "len" = none
  range : mg "range" = none
  isinstance : mg "isinstance" = none
  tuple : mg "tuple" = none
  zip : mg "zip" = none
  str : mg "str" = none
  int : mg "int" = none
  bool : mg "bool" = none
  ValueError : mg "ValueError" = none
  d__wall : ∃ (f : Addr) (fd : FuncData), FunD K "_wall" "_wall" (defArgs (top 0)) (defBody (top 0)) (defScope (top 0)) [] [] f fd ∧ mg "_wall" = some (.ref f)
  d_parts_of : ∃ (f : Addr) (fd : FuncData), FunD K "parts_of" "parts_of" (defArgs (top 9)) (defBody (top 9)) (defScope (top 9)) [] [] f fd ∧ mg "parts_of" = some (.ref f)
  d_with_parts : ∃ (f : Addr) (fd : FuncData), FunD K "with_parts" "with_parts" (defArgs (top 10)) (defBody (top 10)) (defScope (top 10)) [] [] f fd ∧ mg "with_parts" = some (.ref f)
  d_inward : ∃ (f : Addr) (fd : FuncData), FunD K "inward" "inward" (defArgs (top 11)) (defBody (top 11)) (defScope (top 11)) [] [] f fd ∧ mg "inward" = some (.ref f)
  d_knots : ∃ (f : Addr) (fd : FuncData), FunD K "knots" "knots" (defArgs (top 12)) (defBody (top 12)) (defScope (top 12)) [] [] f fd ∧ mg "knots" = some (.ref f)
  d_layers : ∃ (f : Addr) (fd : FuncData), FunD K "layers" "layers" (defArgs (top 13)) (defBody (top 13)) (defScope (top 13)) [] [] f fd ∧ mg "layers" = some (.ref f)
  d_nested : ∃ (f : Addr) (fd : FuncData), FunD K "nested" "nested" (defArgs (top 14)) (defBody (top 14)) (defScope (top 14)) [] [] f fd ∧ mg "nested" = some (.ref f)
  d_fair : ∃ (f : Addr) (fd : FuncData), FunD K "fair" "fair" (defArgs (top 15)) (defBody (top 15)) (defScope (top 15)) [] [] f fd ∧ mg "fair" = some (.ref f)
  d_raised : ∃ (f : Addr) (fd : FuncData), FunD K "raised" "raised" (defArgs (top 16)) (defBody (top 16)) (defScope (top 16)) [] [] f fd ∧ mg "raised" = some (.ref f)
  d_put_within : ∃ (f : Addr) (fd : FuncData), FunD K "put_within" "put_within" (defArgs (top 17)) (defBody (top 17)) (defScope (top 17)) [] [] f fd ∧ mg "put_within" = some (.ref f)
  d_put : ∃ (f : Addr) (fd : FuncData), FunD K "put" "put" (defArgs (top 18)) (defBody (top 18)) (defScope (top 18)) [] [] f fd ∧ mg "put" = some (.ref f)
  d_all_bound : ∃ (f : Addr) (fd : FuncData), FunD K "all_bound" "all_bound" (defArgs (top 19)) (defBody (top 19)) (defScope (top 19)) [] [] f fd ∧ mg "all_bound" = some (.ref f)
  d_without : ∃ (f : Addr) (fd : FuncData), FunD K "without" "without" (defArgs (top 21)) (defBody (top 21)) (defScope (top 21)) [] [] f fd ∧ mg "without" = some (.ref f)
  d_joined : ∃ (f : Addr) (fd : FuncData), FunD K "joined" "joined" (defArgs (top 22)) (defBody (top 22)) (defScope (top 22)) [] [] f fd ∧ mg "joined" = some (.ref f)
  d_together : ∃ (f : Addr) (fd : FuncData), FunD K "together" "together" (defArgs (top 23)) (defBody (top 23)) (defScope (top 23)) [] [] f fd ∧ mg "together" = some (.ref f)
  d_cell_at_l : ∃ (f : Addr) (fd : FuncData), FunD K "_law_cell_at" "_law_cell_at" (defArgs (top 26)) (defBody (top 26)) (defScope (top 26)) [] [] f fd ∧ mg "_law_cell_at" = some (.ref f)
  d_next_l : ∃ (f : Addr) (fd : FuncData), FunD K "_law_next" "_law_next" (defArgs (top 27)) (defBody (top 27)) (defScope (top 27)) [] [] f fd ∧ mg "_law_next" = some (.ref f)
  d_name_by_l : ∃ (f : Addr) (fd : FuncData), FunD K "_law_name_by" "_law_name_by" (defArgs (top 28)) (defBody (top 28)) (defScope (top 28)) [] [] f fd ∧ mg "_law_name_by" = some (.ref f)
  d_like_l : ∃ (f : Addr) (fd : FuncData), FunD K "_law_like" "_law_like" (defArgs (top 29)) (defBody (top 29)) (defScope (top 29)) [] [] f fd ∧ mg "_law_like" = some (.ref f)
  d_rows_like_l : ∃ (f : Addr) (fd : FuncData), FunD K "_law_rows_like" "_law_rows_like" (defArgs (top 30)) (defBody (top 30)) (defScope (top 30)) [] [] f fd ∧ mg "_law_rows_like" = some (.ref f)
  d_whole_l : ∃ (f : Addr) (fd : FuncData), FunD K "_law_whole" "_law_whole" (defArgs (top 31)) (defBody (top 31)) (defScope (top 31)) [] [] f fd ∧ mg "_law_whole" = some (.ref f)
  d_stood_l : ∃ (f : Addr) (fd : FuncData), FunD K "_law_stood" "_law_stood" (defArgs (top 32)) (defBody (top 32)) (defScope (top 32)) [] [] f fd ∧ mg "_law_stood" = some (.ref f)
  d_no_seal_l : ∃ (f : Addr) (fd : FuncData), FunD K "_law_no_seal" "_law_no_seal" (defArgs (top 33)) (defBody (top 33)) (defScope (top 33)) [] [] f fd ∧ mg "_law_no_seal" = some (.ref f)
  d_more_l : ∃ (f : Addr) (fd : FuncData), FunD K "_law_more" "_law_more" (defArgs (top 34)) (defBody (top 34)) (defScope (top 34)) [] [] f fd ∧ mg "_law_more" = some (.ref f)
  d_right_l : ∃ (f : Addr) (fd : FuncData), FunD K "_law_right" "_law_right" (defArgs (top 35)) (defBody (top 35)) (defScope (top 35)) [] [] f fd ∧ mg "_law_right" = some (.ref f)
  d_law_k11 : ∃ (f : Addr) (fd : FuncData), FunD K "law" "law" (defArgs (top 36)) (defBody (top 36)) (defScope (top 36)) [] [] f fd ∧ mg "law" = some (.ref f)
  g_HallError : mg "HallError" = some (.ref (He.ga K "HallError"))
  g_NoSeal : mg "NoSeal" = some (.ref (He.ga K "NoSeal"))
  g_Unfit : mg "Unfit" = some (.ref (He.ga K "Unfit"))
  g_TooLarge : mg "TooLarge" = some (.ref (He.ga K "TooLarge"))
  g_NoThing : mg "NoThing" = some (.ref (He.ga K "NoThing"))
  g_NoWord : mg "NoWord" = some (.ref (He.ga K "NoWord"))
  e_NoSeal : ErrC K mg "NoSeal"
  e_TooLarge : ErrC K mg "TooLarge"
  e_Unfit : ErrC K mg "Unfit"
  err : ErrK K ["NoSeal", "Unfit", "TooLarge", "NoThing", "NoWord"] ["HallError", "NoSeal", "Unfit", "TooLarge", "NoThing", "NoWord"]
  g_Hall : mg "Hall" = some (.ref (He.ga K "Hall"))
  c_Hall : Cls K (He.ga K "Hall")
  k_Hall : Mk K (He.ga K "Hall") (He.ma K (He.ga K "Hall") "__init__")
  na_Hall_seals : NoAttr K (He.ga K "Hall") "seals"
  na_Hall_ground : NoAttr K (He.ga K "Hall") "ground"
  mt_Hall_seal_at : Meth K (He.ga K "Hall") "seal_at" (He.ma K (He.ga K "Hall") "seal_at")
  mt_Hall_told : Meth K (He.ga K "Hall") "told" (He.ma K (He.ga K "Hall") "told")
  mt_Hall_bases : Meth K (He.ga K "Hall") "bases" (He.ma K (He.ga K "Hall") "bases")
  mt_Hall_stood : Meth K (He.ga K "Hall") "stood" (He.ma K (He.ga K "Hall") "stood")
  mt_Hall_sealed : Meth K (He.ga K "Hall") "sealed" (He.ma K (He.ga K "Hall") "sealed")
  mt_Hall_assume : Meth K (He.ga K "Hall") "assume" (He.ma K (He.ga K "Hall") "assume")
  mt_Hall_apply : Meth K (He.ga K "Hall") "apply" (He.ma K (He.ga K "Hall") "apply")
  mt_Hall_axiom : Meth K (He.ga K "Hall") "axiom" (He.ma K (He.ga K "Hall") "axiom")
  mt_Hall_drop : Meth K (He.ga K "Hall") "drop" (He.ma K (He.ga K "Hall") "drop")
  mt_Hall_more : Meth K (He.ga K "Hall") "more" (He.ma K (He.ga K "Hall") "more")
  mt_Hall_many : Meth K (He.ga K "Hall") "many" (He.ma K (He.ga K "Hall") "many")
  mt_Hall_axioms : Meth K (He.ga K "Hall") "axioms" (He.ma K (He.ga K "Hall") "axioms")
  m_Hall_seal_at : ∃ fd, FunD K "seal_at" "Hall.seal_at" (defArgs (inClass (top 24) 2)) (defBody (inClass (top 24) 2)) (defScope (inClass (top 24) 2)) [] [] (He.ma K (He.ga K "Hall") "seal_at") fd
  m_Hall_told : ∃ fd, FunD K "told" "Hall.told" (defArgs (inClass (top 24) 15)) (defBody (inClass (top 24) 15)) (defScope (inClass (top 24) 15)) [] [] (He.ma K (He.ga K "Hall") "told") fd
  m_Hall_bases : ∃ fd, FunD K "bases" "Hall.bases" (defArgs (inClass (top 24) 16)) (defBody (inClass (top 24) 16)) (defScope (inClass (top 24) 16)) [] [] (He.ma K (He.ga K "Hall") "bases") fd
  m_Hall_stood : ∃ fd, FunD K "stood" "Hall.stood" (defArgs (inClass (top 24) 17)) (defBody (inClass (top 24) 17)) (defScope (inClass (top 24) 17)) [] [] (He.ma K (He.ga K "Hall") "stood") fd
  m_Hall_sealed : ∃ fd, FunD K "sealed" "Hall.sealed" (defArgs (inClass (top 24) 3)) (defBody (inClass (top 24) 3)) (defScope (inClass (top 24) 3)) [] [] (He.ma K (He.ga K "Hall") "sealed") fd
  m_Hall_assume : ∃ fd, FunD K "assume" "Hall.assume" (defArgs (inClass (top 24) 4)) (defBody (inClass (top 24) 4)) (defScope (inClass (top 24) 4)) [] [] (He.ma K (He.ga K "Hall") "assume") fd
  m_Hall_apply : ∃ fd, FunD K "apply" "Hall.apply" (defArgs (inClass (top 24) 6)) (defBody (inClass (top 24) 6)) (defScope (inClass (top 24) 6)) [] [] (He.ma K (He.ga K "Hall") "apply") fd
  m_Hall_axiom : ∃ fd, FunD K "axiom" "Hall.axiom" (defArgs (inClass (top 24) 13)) (defBody (inClass (top 24) 13)) (defScope (inClass (top 24) 13)) [] [] (He.ma K (He.ga K "Hall") "axiom") fd
  m_Hall_drop : ∃ fd, FunD K "drop" "Hall.drop" (defArgs (inClass (top 24) 5)) (defBody (inClass (top 24) 5)) (defScope (inClass (top 24) 5)) [] [] (He.ma K (He.ga K "Hall") "drop") fd
  m_Hall_more : ∃ fd, FunD K "more" "Hall.more" (defArgs (inClass (top 24) 12)) (defBody (inClass (top 24) 12)) (defScope (inClass (top 24) 12)) [] [] (He.ma K (He.ga K "Hall") "more") fd
  m_Hall_init : ∃ fd, FunD K "__init__" "Hall.__init__" (defArgs (inClass (top 24) 0)) (defBody (inClass (top 24) 0)) (defScope (inClass (top 24) 0)) [] [] (He.ma K (He.ga K "Hall") "__init__") fd
  m_Hall_many : ∃ fd, FunD K "many" "Hall.many" (defArgs (inClass (top 24) 1)) (defBody (inClass (top 24) 1)) (defScope (inClass (top 24) 1)) [] [] (He.ma K (He.ga K "Hall") "many") fd
  m_Hall_axioms : ∃ fd, FunD K "axioms" "Hall.axioms" (defArgs (inClass (top 24) 14)) (defBody (inClass (top 24) 14)) (defScope (inClass (top 24) 14)) [] [] (He.ma K (He.ga K "Hall") "axioms") fd
theorem Tx_of {K : PySem.W.Frag} {h : Heap} {mg : Str → Option Value} (X : K.In h) (G : h.Ns mainGlobals mg) (c : He.SaysD fa fn K) (F : errB ["NoSeal", "Unfit", "TooLarge", "NoThing", "NoWord"] ["HallError", "NoSeal", "Unfit", "TooLarge", "NoThing", "NoWord"] K = true) : Tx K mg :=
  ⟨He.free_ok X G (c.fact 26 (f := .free "list") rfl),
   He.free_ok X G (c.fact 27 (f := .free "max") rfl),
   He.free_ok X G (c.fact 28 (f := .free "sorted") rfl),
   He.free_ok X G (c.fact 29 (f := .free "set") rfl),
   He.free_ok X G (c.fact 30 (f := .free "len") rfl),
   He.free_ok X G (c.fact 31 (f := .free "range") rfl),
   He.free_ok X G (c.fact 32 (f := .free "isinstance") rfl),
   He.free_ok X G (c.fact 33 (f := .free "tuple") rfl),
   He.free_ok X G (c.fact 34 (f := .free "zip") rfl),
   He.free_ok X G (c.fact 35 (f := .free "str") rfl),
   He.free_ok X G (c.fact 36 (f := .free "int") rfl),
   He.free_ok X G (c.fact 37 (f := .free "bool") rfl),
   He.free_ok X G (c.fact 38 (f := .free "ValueError") rfl),
   (let ⟨fd, F⟩ := c.def_ 0 rfl; ⟨_, fd, F, He.glo_ok X G (c.fact 0 (f := .glo "_wall") rfl)⟩),
   (let ⟨fd, F⟩ := c.def_ 1 rfl; ⟨_, fd, F, He.glo_ok X G (c.fact 1 (f := .glo "parts_of") rfl)⟩),
   (let ⟨fd, F⟩ := c.def_ 2 rfl; ⟨_, fd, F, He.glo_ok X G (c.fact 2 (f := .glo "with_parts") rfl)⟩),
   (let ⟨fd, F⟩ := c.def_ 3 rfl; ⟨_, fd, F, He.glo_ok X G (c.fact 3 (f := .glo "inward") rfl)⟩),
   (let ⟨fd, F⟩ := c.def_ 4 rfl; ⟨_, fd, F, He.glo_ok X G (c.fact 4 (f := .glo "knots") rfl)⟩),
   (let ⟨fd, F⟩ := c.def_ 5 rfl; ⟨_, fd, F, He.glo_ok X G (c.fact 5 (f := .glo "layers") rfl)⟩),
   (let ⟨fd, F⟩ := c.def_ 6 rfl; ⟨_, fd, F, He.glo_ok X G (c.fact 6 (f := .glo "nested") rfl)⟩),
   (let ⟨fd, F⟩ := c.def_ 7 rfl; ⟨_, fd, F, He.glo_ok X G (c.fact 7 (f := .glo "fair") rfl)⟩),
   (let ⟨fd, F⟩ := c.def_ 8 rfl; ⟨_, fd, F, He.glo_ok X G (c.fact 8 (f := .glo "raised") rfl)⟩),
   (let ⟨fd, F⟩ := c.def_ 9 rfl; ⟨_, fd, F, He.glo_ok X G (c.fact 9 (f := .glo "put_within") rfl)⟩),
   (let ⟨fd, F⟩ := c.def_ 10 rfl; ⟨_, fd, F, He.glo_ok X G (c.fact 10 (f := .glo "put") rfl)⟩),
   (let ⟨fd, F⟩ := c.def_ 11 rfl; ⟨_, fd, F, He.glo_ok X G (c.fact 11 (f := .glo "all_bound") rfl)⟩),
   (let ⟨fd, F⟩ := c.def_ 12 rfl; ⟨_, fd, F, He.glo_ok X G (c.fact 12 (f := .glo "without") rfl)⟩),
   (let ⟨fd, F⟩ := c.def_ 13 rfl; ⟨_, fd, F, He.glo_ok X G (c.fact 13 (f := .glo "joined") rfl)⟩),
   (let ⟨fd, F⟩ := c.def_ 14 rfl; ⟨_, fd, F, He.glo_ok X G (c.fact 14 (f := .glo "together") rfl)⟩),
   (let ⟨fd, F⟩ := c.def_ 15 rfl; ⟨_, fd, F, He.glo_ok X G (c.fact 15 (f := .glo "_law_cell_at") rfl)⟩),
   (let ⟨fd, F⟩ := c.def_ 16 rfl; ⟨_, fd, F, He.glo_ok X G (c.fact 16 (f := .glo "_law_next") rfl)⟩),
   (let ⟨fd, F⟩ := c.def_ 17 rfl; ⟨_, fd, F, He.glo_ok X G (c.fact 17 (f := .glo "_law_name_by") rfl)⟩),
   (let ⟨fd, F⟩ := c.def_ 18 rfl; ⟨_, fd, F, He.glo_ok X G (c.fact 18 (f := .glo "_law_like") rfl)⟩),
   (let ⟨fd, F⟩ := c.def_ 19 rfl; ⟨_, fd, F, He.glo_ok X G (c.fact 19 (f := .glo "_law_rows_like") rfl)⟩),
   (let ⟨fd, F⟩ := c.def_ 20 rfl; ⟨_, fd, F, He.glo_ok X G (c.fact 20 (f := .glo "_law_whole") rfl)⟩),
   (let ⟨fd, F⟩ := c.def_ 21 rfl; ⟨_, fd, F, He.glo_ok X G (c.fact 21 (f := .glo "_law_stood") rfl)⟩),
   (let ⟨fd, F⟩ := c.def_ 22 rfl; ⟨_, fd, F, He.glo_ok X G (c.fact 22 (f := .glo "_law_no_seal") rfl)⟩),
   (let ⟨fd, F⟩ := c.def_ 23 rfl; ⟨_, fd, F, He.glo_ok X G (c.fact 23 (f := .glo "_law_more") rfl)⟩),
   (let ⟨fd, F⟩ := c.def_ 24 rfl; ⟨_, fd, F, He.glo_ok X G (c.fact 24 (f := .glo "_law_right") rfl)⟩),
   (let ⟨fd, F⟩ := c.def_ 25 rfl; ⟨_, fd, F, He.glo_ok X G (c.fact 25 (f := .glo "law") rfl)⟩),
   He.glo_ok X G (c.fact 39 (f := .glo "HallError") rfl),
   He.glo_ok X G (c.fact 40 (f := .glo "NoSeal") rfl),
   He.glo_ok X G (c.fact 41 (f := .glo "Unfit") rfl),
   He.glo_ok X G (c.fact 42 (f := .glo "TooLarge") rfl),
   He.glo_ok X G (c.fact 43 (f := .glo "NoThing") rfl),
   He.glo_ok X G (c.fact 44 (f := .glo "NoWord") rfl),
   (let ⟨q, k, b, t⟩ := He.exc_ok (c.fact 45 (f := .exc "NoSeal") rfl); ⟨He.glo_ok X G (c.fact 40 (f := .glo "NoSeal") rfl), q, k, b, t⟩),
   (let ⟨q, k, b, t⟩ := He.exc_ok (c.fact 46 (f := .exc "TooLarge") rfl); ⟨He.glo_ok X G (c.fact 42 (f := .glo "TooLarge") rfl), q, k, b, t⟩),
   (let ⟨q, k, b, t⟩ := He.exc_ok (c.fact 47 (f := .exc "Unfit") rfl); ⟨He.glo_ok X G (c.fact 41 (f := .glo "Unfit") rfl), q, k, b, t⟩),
   ⟨F⟩,
   He.glo_ok X G (c.fact 48 (f := .glo "Hall") rfl),
   He.cls_ok (c.fact 49 (f := .cls "Hall") rfl),
   He.mkr_ok (c.fact 50 (f := .mkr "Hall") rfl),
   He.noat_ok (c.fact 51 (f := .noat "Hall" "seals") rfl),
   He.noat_ok (c.fact 52 (f := .noat "Hall" "ground") rfl),
   He.meth_ok (c.fact 53 (f := .meth "Hall" "seal_at") rfl),
   He.meth_ok (c.fact 54 (f := .meth "Hall" "told") rfl),
   He.meth_ok (c.fact 55 (f := .meth "Hall" "bases") rfl),
   He.meth_ok (c.fact 56 (f := .meth "Hall" "stood") rfl),
   He.meth_ok (c.fact 57 (f := .meth "Hall" "sealed") rfl),
   He.meth_ok (c.fact 58 (f := .meth "Hall" "assume") rfl),
   He.meth_ok (c.fact 59 (f := .meth "Hall" "apply") rfl),
   He.meth_ok (c.fact 60 (f := .meth "Hall" "axiom") rfl),
   He.meth_ok (c.fact 61 (f := .meth "Hall" "drop") rfl),
   He.meth_ok (c.fact 62 (f := .meth "Hall" "more") rfl),
   He.meth_ok (c.fact 63 (f := .meth "Hall" "many") rfl),
   He.meth_ok (c.fact 64 (f := .meth "Hall" "axioms") rfl),
   c.def_ 28 rfl,
   c.def_ 41 rfl,
   c.def_ 42 rfl,
   c.def_ 43 rfl,
   c.def_ 29 rfl,
   c.def_ 30 rfl,
   c.def_ 32 rfl,
   c.def_ 39 rfl,
   c.def_ 31 rfl,
   c.def_ 38 rfl,
   c.def_ 26 rfl,
   c.def_ 27 rfl,
   c.def_ 40 rfl⟩
section
variable {P : Program} {w : World} {K : PySem.W.Frag} {mg : Str → Option Value} {base : Heap}
theorem sc_parts_of : FnScope N_parts_of ["word"] (defScope (top 9)) := ⟨rfl, rfl, rfl, by decide +kernel, rfl, by decide +kernel, by decide +kernel⟩
theorem w_parts_of (T : Tx K mg) : FnT P w K mg base 1 "parts_of" .per parts_of_m := by
  obtain ⟨f, fd, F, hm⟩ := T.d_parts_of
  exact ⟨f, fd, _, fn_ok (k := 0) (N := N_parts_of) (ps := ["word"]) (m := parts_of_b ) F sc_parts_of (by decide) (fun cdv A outer s H E B hr hB =>
  (sm_cons (sm_if (PW.pt (pq_or (pq_cmp (op_eqA (hu200 hr)) r2_eq (pm_ix (pm_v 0) pm_int) pm_str (nomark _)) (pq_or1 (pq_cmp (op_eqA (hu200 hr)) r2_eq (pm_ix (pm_v 0) pm_int) pm_str (nomark _)))))
  (sm_one (sm_ret (pm_per (pm_nf (pm_list T.list (by rfl) (pm_ix (pm_v 0) pm_int))))))
  sm_nil)
  (sm_cons (sm_if (PW.pt (pq_or (pq_cmp (op_eqA (hu200 hr)) r2_eq (pm_ix (pm_v 0) pm_int) pm_str (nomark _)) (pq_or1 (pq_cmp (op_eqA (hu200 hr)) r2_eq (pm_ix (pm_v 0) pm_int) pm_str (nomark _)))))
  (sm_one (sm_ret (pm_per (pm_nf (pm_lst pam_nil)))))
  sm_nil)
  (sm_one (sm_ret (pm_per (pm_nf (pm_list T.list (by rfl) (pm_sl (pm_v 0) (pom_some pm_int) pom_none))))))))), hm, F.kp, (F.bindsN (ps := ["word"]) fun _ _ _ _ _ _ us hl => match us, hl with | [_], _ => rfl)⟩
theorem sc_inward : FnScope N_inward ["word", "depth"] (defScope (top 11)) := ⟨rfl, rfl, rfl, by decide +kernel, rfl, by decide +kernel, by decide +kernel⟩
theorem w_inward (T : Tx K mg) : FnT P w K mg base 1 "inward" .per inward_m := by
  obtain ⟨f, fd, F, hm⟩ := T.d_inward
  exact ⟨f, fd, _, fn_ok (k := 0) (N := N_inward) (ps := ["word", "depth"]) (m := inward_b ) F sc_inward (by decide) (fun cdv A outer s H E B hr hB =>
  (sm_cons (sm_if (pq_cmp (op_eqA (hu200 hr)) r2_eq (pm_ix (pm_v 0) pm_int) pm_str (nomark _))
  (sm_one (sm_ret (pm_per (pm_op op_addA r2_add (pm_v 1) pm_int))))
  sm_nil)
  (sm_one (sm_ret (pm_v 1))))), hm, F.kp, (F.bindsN (ps := ["word", "depth"]) fun _ _ _ _ _ _ us hl => match us, hl with | [_, _], _ => rfl)⟩
theorem sc_knots : FnScope N_knots ["word"] (defScope (top 12)) := ⟨rfl, rfl, rfl, by decide +kernel, rfl, by decide +kernel, by decide +kernel⟩
theorem w_knots (T : Tx K mg) : ∀ n : Nat, FnT P w K mg base (1 + n) "knots" .per (knots_m n)
  | 0 => by
    obtain ⟨f, fd, F, hm⟩ := T.d_knots
    exact FnT.none hm F.kp (F.bindsN (ps := ["word"]) fun _ _ _ _ _ _ us hl => match us, hl with | [_], _ => rfl)
  | n + 1 => by
    obtain ⟨f, fd, F, hm⟩ := T.d_knots
    have g_knots := w_knots T n
    have g_parts_of : FnT P w K mg base 1 "parts_of" .per parts_of_m := w_parts_of T
    exact ⟨f, fd, _, fn_ok (k := 1 + n) (N := N_knots) (ps := ["word"]) (m := knots_b parts_of_m (knots_m n)) F sc_knots (by decide) (fun cdv A outer s H E B hr hB =>
  (sm_cons (sm_set (i := 1) sc_knots.nd (by rfl) (by first | exact Or.inl rfl | exact Or.inr rfl) pm_int)
  (sm_cons (sm_for (i := 2) (passes_of (by rfl)) (by rfl) (pl_of (pm_fre (pm_call g_parts_of (hr.mono (by omega)) (by rfl) (pam_per (pm_v 0) pam_nil)))) (pg_name (i := 2) sc_knots.nd (by rfl) (by first | exact Or.inl rfl | exact Or.inr rfl))
  (sm_one (sm_set (i := 1) sc_knots.nd (by rfl) (by first | exact Or.inl rfl | exact Or.inr rfl) (pm_per (pm_op op_addA r2_add (pm_v 1) (pm_call g_knots (hr.mono (by omega)) (by rfl) (pam_per (pm_v 2) pam_nil)))))))
  (sm_one (sm_ret (pm_v 1)))))), hm, F.kp, (F.bindsN (ps := ["word"]) fun _ _ _ _ _ _ us hl => match us, hl with | [_], _ => rfl)⟩
theorem sc_layers : FnScope N_layers ["word"] (defScope (top 13)) := ⟨rfl, rfl, rfl, by decide +kernel, rfl, by decide +kernel, by decide +kernel⟩
theorem w_layers (T : Tx K mg) : ∀ n : Nat, FnT P w K mg base (1 + n) "layers" .per (layers_m n)
  | 0 => by
    obtain ⟨f, fd, F, hm⟩ := T.d_layers
    exact FnT.none hm F.kp (F.bindsN (ps := ["word"]) fun _ _ _ _ _ _ us hl => match us, hl with | [_], _ => rfl)
  | n + 1 => by
    obtain ⟨f, fd, F, hm⟩ := T.d_layers
    have g_layers := w_layers T n
    have g_parts_of : FnT P w K mg base 1 "parts_of" .per parts_of_m := w_parts_of T
    exact ⟨f, fd, _, fn_ok (k := 1 + n) (N := N_layers) (ps := ["word"]) (m := layers_b parts_of_m (layers_m n)) F sc_layers (by decide) (fun cdv A outer s H E B hr hB =>
  (sm_cons (sm_set (i := 1) sc_layers.nd (by rfl) (by first | exact Or.inl rfl | exact Or.inr rfl) pm_int)
  (sm_cons (sm_for (i := 2) (passes_of (by rfl)) (by rfl) (pl_of (pm_fre (pm_call g_parts_of (hr.mono (by omega)) (by rfl) (pam_per (pm_v 0) pam_nil)))) (pg_name (i := 2) sc_layers.nd (by rfl) (by first | exact Or.inl rfl | exact Or.inr rfl))
  (sm_one (sm_set (i := 1) sc_layers.nd (by rfl) (by first | exact Or.inl rfl | exact Or.inr rfl) (pm_max (by rfl) T.max (by rfl) (pm_v 1) (pm_call g_layers (hr.mono (by omega)) (by rfl) (pam_per (pm_v 2) pam_nil))))))
  (sm_one (sm_ret (pm_per (pm_op op_addA r2_add (pm_v 1) pm_int))))))), hm, F.kp, (F.bindsN (ps := ["word"]) fun _ _ _ _ _ _ us hl => match us, hl with | [_], _ => rfl)⟩
theorem sc_nested : FnScope N_nested ["word"] (defScope (top 14)) := ⟨rfl, rfl, rfl, by decide +kernel, rfl, by decide +kernel, by decide +kernel⟩
theorem w_nested (T : Tx K mg) : ∀ n : Nat, FnT P w K mg base (1 + n) "nested" .per (nested_m n)
  | 0 => by
    obtain ⟨f, fd, F, hm⟩ := T.d_nested
    exact FnT.none hm F.kp (F.bindsN (ps := ["word"]) fun _ _ _ _ _ _ us hl => match us, hl with | [_], _ => rfl)
  | n + 1 => by
    obtain ⟨f, fd, F, hm⟩ := T.d_nested
    have g_nested := w_nested T n
    have g_parts_of : FnT P w K mg base 1 "parts_of" .per parts_of_m := w_parts_of T
    have g_inward : FnT P w K mg base 1 "inward" .per inward_m := w_inward T
    exact ⟨f, fd, _, fn_ok (k := 1 + n) (N := N_nested) (ps := ["word"]) (m := nested_b parts_of_m (nested_m n) inward_m) F sc_nested (by decide) (fun cdv A outer s H E B hr hB =>
  (sm_cons (sm_set (i := 1) sc_nested.nd (by rfl) (by first | exact Or.inl rfl | exact Or.inr rfl) pm_int)
  (sm_cons (sm_for (i := 2) (passes_of (by rfl)) (by rfl) (pl_of (pm_fre (pm_call g_parts_of (hr.mono (by omega)) (by rfl) (pam_per (pm_v 0) pam_nil)))) (pg_name (i := 2) sc_nested.nd (by rfl) (by first | exact Or.inl rfl | exact Or.inr rfl))
  (sm_one (sm_set (i := 1) sc_nested.nd (by rfl) (by first | exact Or.inl rfl | exact Or.inr rfl) (pm_max (by rfl) T.max (by rfl) (pm_v 1) (pm_call g_nested (hr.mono (by omega)) (by rfl) (pam_per (pm_v 2) pam_nil))))))
  (sm_one (sm_ret (pm_call g_inward (hr.mono (by omega)) (by rfl) (pam_per (pm_v 0) (pam_per (pm_v 1) pam_nil)))))))), hm, F.kp, (F.bindsN (ps := ["word"]) fun _ _ _ _ _ _ us hl => match us, hl with | [_], _ => rfl)⟩
theorem sc_fair : FnScope N_fair ["form"] (defScope (top 15)) := ⟨rfl, rfl, rfl, by decide +kernel, rfl, by decide +kernel, by decide +kernel⟩
theorem w_fair (T : Tx K mg) : FnT P w K mg base 142 "fair" .per fair_m := by
  obtain ⟨f, fd, F, hm⟩ := T.d_fair
  have g_knots : FnT P w K mg base 141 "knots" .per (knots_m 140) := w_knots T 140
  have g_layers : FnT P w K mg base 141 "layers" .per (layers_m 140) := w_layers T 140
  have g_nested : FnT P w K mg base 141 "nested" .per (nested_m 140) := w_nested T 140
  exact ⟨f, fd, _, fn_ok (k := 141) (N := N_fair) (ps := ["form"]) (m := fair_b (knots_m 140) (layers_m 140) (nested_m 140)) F sc_fair (by decide) (fun cdv A outer s H E B hr hB =>
  (sm_one (sm_ret (pm_bool (pm_and (pm_cmp op_le r2_le (pm_call g_knots (hr.mono (by omega)) (by rfl) (pam_per (pm_v 0) pam_nil)) pm_int (nomark _)) (pm_and (pm_cmp op_le r2_le (pm_call g_layers (hr.mono (by omega)) (by rfl) (pam_per (pm_v 0) pam_nil)) pm_int (nomark _)) (pm_one (pm_cmp op_le r2_le (pm_call g_nested (hr.mono (by omega)) (by rfl) (pam_per (pm_v 0) pam_nil)) pm_int (nomark _))))))))), hm, F.kp, (F.bindsN (ps := ["form"]) fun _ _ _ _ _ _ us hl => match us, hl with | [_], _ => rfl)⟩
theorem sc_all_bound : FnScope N_all_bound ["word", "depth"] (defScope (top 19)) := ⟨rfl, rfl, rfl, by decide +kernel, rfl, by decide +kernel, by decide +kernel⟩
theorem w_all_bound (T : Tx K mg) : ∀ n : Nat, FnT P w K mg base (1 + n) "all_bound" .per (all_bound_m n)
  | 0 => by
    obtain ⟨f, fd, F, hm⟩ := T.d_all_bound
    exact FnT.none hm F.kp (F.bindsN (ps := ["word", "depth"]) fun _ _ _ _ _ _ us hl => match us, hl with | [_, _], _ => rfl)
  | n + 1 => by
    obtain ⟨f, fd, F, hm⟩ := T.d_all_bound
    have g_all_bound := w_all_bound T n
    have g_inward : FnT P w K mg base 1 "inward" .per inward_m := w_inward T
    have g_parts_of : FnT P w K mg base 1 "parts_of" .per parts_of_m := w_parts_of T
    exact ⟨f, fd, _, fn_ok (k := 1 + n) (N := N_all_bound) (ps := ["word", "depth"]) (m := all_bound_b inward_m parts_of_m (all_bound_m n)) F sc_all_bound (by decide) (fun cdv A outer s H E B hr hB =>
  (sm_cons (sm_if (pq_cmp (op_eqA (hu200 hr)) r2_eq (pm_ix (pm_v 0) pm_int) pm_str (nomark _))
  (sm_one (sm_ret (pm_cmp op_lt r2_lt (pm_ix (pm_v 0) pm_int) (pm_v 1) (nomark _))))
  sm_nil)
  (sm_cons (sm_set (i := 2) sc_all_bound.nd (by rfl) (by first | exact Or.inl rfl | exact Or.inr rfl) (pm_call g_inward (hr.mono (by omega)) (by rfl) (pam_per (pm_v 0) (pam_per (pm_v 1) pam_nil))))
  (sm_cons (sm_for (i := 3) (passes_of (by rfl)) (by rfl) (pl_of (pm_fre (pm_call g_parts_of (hr.mono (by omega)) (by rfl) (pam_per (pm_v 0) pam_nil)))) (pg_name (i := 3) sc_all_bound.nd (by rfl) (by first | exact Or.inl rfl | exact Or.inr rfl))
  (sm_one (sm_if (pq_not (pq_val (pm_call g_all_bound (hr.mono (by omega)) (by rfl) (pam_per (pm_v 3) (pam_per (pm_v 2) pam_nil)))))
  (sm_one (sm_ret pm_bl))
  sm_nil)))
  (sm_one (sm_ret pm_bl)))))), hm, F.kp, (F.bindsN (ps := ["word", "depth"]) fun _ _ _ _ _ _ us hl => match us, hl with | [_, _], _ => rfl)⟩
theorem sc_without : FnScope N_without ["forms", "form"] (defScope (top 21)) := ⟨rfl, rfl, rfl, by decide +kernel, rfl, by decide +kernel, by decide +kernel⟩
theorem w_without (T : Tx K mg) : FnT P w K mg base 1 "without" .per without_m := by
  obtain ⟨f, fd, F, hm⟩ := T.d_without
  exact ⟨f, fd, _, fn_ok (k := 0) (N := N_without) (ps := ["forms", "form"]) (m := without_b ) F sc_without (by decide) (fun cdv A outer s H E B hr hB =>
  (sm_one (sm_ret (pm_per (pm_nf (pm_lc (x := "one") (i := 2) (by rfl) sc_without.nd (by rfl) (pm_v 0) (blkOk_by (own := [("one", 2)]) (N := N_without) (sc := defScope (top 21)) (by decide +kernel)) (fun _ _ _ _ _ => pg_name (i := 2) sc_without.nd (by rfl) (Or.inl (by rfl))) (fun _ _ _ _ _ => (ptm_one (pq_cmp (op_neA (hu200 hr)) r2_ne (pm_v 2) (pm_v 1) (nomark _)))) (fun _ _ _ _ _ => (pm_v 2)))))))), hm, F.kp, (F.bindsN (ps := ["forms", "form"]) fun _ _ _ _ _ _ us hl => match us, hl with | [_, _], _ => rfl)⟩
theorem sc_joined : FnScope N_joined ["ones", "others"] (defScope (top 22)) := ⟨rfl, rfl, rfl, by decide +kernel, rfl, by decide +kernel, by decide +kernel⟩
theorem w_joined (T : Tx K mg) : FnT P w K mg base 1 "joined" .per joined_m := by
  obtain ⟨f, fd, F, hm⟩ := T.d_joined
  exact ⟨f, fd, _, fn_ok (k := 0) (N := N_joined) (ps := ["ones", "others"]) (m := joined_b ) F sc_joined (by decide) (fun cdv A outer s H E B hr hB =>
  (sm_one (sm_ret (pm_per (pm_op op_addA r2_add (pm_list T.list (by rfl) (pm_v 0)) (pm_lc (x := "one") (i := 2) (by rfl) sc_joined.nd (by rfl) (pm_v 1) (blkOk_by (own := [("one", 2)]) (N := N_joined) (sc := defScope (top 22)) (by decide +kernel)) (fun _ _ _ _ _ => pg_name (i := 2) sc_joined.nd (by rfl) (Or.inl (by rfl))) (fun _ _ _ _ _ => (ptm_one (pq_cmp (op_notInA (hu200 hr)) r2_in (pm_v 2) (pm_v 0) (by rfl)))) (fun _ _ _ _ _ => (pm_v 2)))))))), hm, F.kp, (F.bindsN (ps := ["ones", "others"]) fun _ _ _ _ _ _ us hl => match us, hl with | [_, _], _ => rfl)⟩
theorem sc_together : FnScope N_together ["ones", "others"] (defScope (top 23)) := ⟨rfl, rfl, rfl, by decide +kernel, rfl, by decide +kernel, by decide +kernel⟩
theorem w_together (T : Tx K mg) : FnT P w K mg base 1 "together" .per together_m := by
  obtain ⟨f, fd, F, hm⟩ := T.d_together
  exact ⟨f, fd, _, fn_ok (k := 0) (N := N_together) (ps := ["ones", "others"]) (m := together_b ) F sc_together (by decide) (fun cdv A outer s H E B hr hB =>
  (sm_one (sm_ret (pm_per (pm_nf (pm_sortset T.sorted rfl T.set rfl (pm_op op_addA r2_add (pm_list T.list (by rfl) (pm_v 0)) (pm_list T.list (by rfl) (pm_v 1))))))))), hm, F.kp, (F.bindsN (ps := ["ones", "others"]) fun _ _ _ _ _ _ us hl => match us, hl with | [_, _], _ => rfl)⟩
theorem sc_cell_at_l : FnScope N_cell_at_l ["script", "k"] (defScope (top 26)) := ⟨rfl, rfl, rfl, by decide +kernel, rfl, by decide +kernel, by decide +kernel⟩
theorem w_cell_at_l (T : Tx K mg) : FnT P w K mg base 1 "_law_cell_at" .per cell_at_l_m := by
  obtain ⟨f, fd, F, hm⟩ := T.d_cell_at_l
  exact ⟨f, fd, _, fn_ok (k := 0) (N := N_cell_at_l) (ps := ["script", "k"]) (m := cell_at_l_b ) F sc_cell_at_l (by decide) (fun cdv A outer s H E B hr hB =>
  (sm_cons (sm_if (pq_cmp op_lt r2_lt (pm_v 1) (pm_len T.len (by rfl) (pm_va 0)) (nomark _))
  (sm_one (sm_ret (pm_ix (pm_va 0) (pm_v 1))))
  sm_nil)
  (sm_one (sm_ret pm_int)))), hm, F.kp, (F.bindsN (ps := ["script", "k"]) fun _ _ _ _ _ _ us hl => match us, hl with | [_, _], _ => rfl)⟩
theorem sc_next_l : FnScope N_next_l ["seed"] (defScope (top 27)) := ⟨rfl, rfl, rfl, by decide +kernel, rfl, by decide +kernel, by decide +kernel⟩
theorem w_next_l (T : Tx K mg) : FnT P w K mg base 1 "_law_next" .per next_l_m := by
  obtain ⟨f, fd, F, hm⟩ := T.d_next_l
  exact ⟨f, fd, _, fn_ok (k := 0) (N := N_next_l) (ps := ["seed"]) (m := next_l_b ) F sc_next_l (by decide) (fun cdv A outer s H E B hr hB =>
  (sm_one (sm_ret (pm_op op_mod r2_mod (pm_op op_addA r2_add (pm_op op_mul r2_mul (pm_v 0) pm_int) pm_int) pm_int)))), hm, F.kp, (F.bindsN (ps := ["seed"]) fun _ _ _ _ _ _ us hl => match us, hl with | [_], _ => rfl)⟩
theorem sc_name_by_l : FnScope N_name_by_l ["cell"] (defScope (top 28)) := ⟨rfl, rfl, rfl, by decide +kernel, rfl, by decide +kernel, by decide +kernel⟩
theorem w_name_by_l (T : Tx K mg) : FnT P w K mg base 2 "_law_name_by" .per name_by_l_m := by
  obtain ⟨f, fd, F, hm⟩ := T.d_name_by_l
  have g_next_l : FnT P w K mg base 1 "_law_next" .per next_l_m := w_next_l T
  exact ⟨f, fd, _, fn_ok (k := 1) (N := N_name_by_l) (ps := ["cell"]) (m := name_by_l_b next_l_m) F sc_name_by_l (by decide) (fun cdv A outer s H E B hr hB =>
  (sm_cons (sm_set (i := 1) sc_name_by_l.nd (by rfl) (by first | exact Or.inl rfl | exact Or.inr rfl) (pm_call g_next_l (hr.mono (by omega)) (by rfl) (pam_per (pm_v 0) pam_nil)))
  (sm_cons (sm_set (i := 2) sc_name_by_l.nd (by rfl) (by first | exact Or.inl rfl | exact Or.inr rfl) pm_str)
  (sm_cons (sm_forR1 (i := 3) (passes_of (by rfl)) (by rfl) (by rfl) T.range (pm_op op_addA r2_add pm_int (pm_op op_mod r2_mod (pm_v 0) pm_int)) (pg_name (i := 3) sc_name_by_l.nd (by rfl) (by first | exact Or.inl rfl | exact Or.inr rfl))
  (sm_cons (sm_set (i := 2) sc_name_by_l.nd (by rfl) (by first | exact Or.inl rfl | exact Or.inr rfl) (pm_per (pm_op op_addA r2_add (pm_v 2) (pm_ix pm_str (pm_op op_mod r2_mod (pm_op op_fdiv r2_div (pm_v 1) pm_int) pm_int)))))
  (sm_one (sm_set (i := 1) sc_name_by_l.nd (by rfl) (by first | exact Or.inl rfl | exact Or.inr rfl) (pm_call g_next_l (hr.mono (by omega)) (by rfl) (pam_per (pm_v 1) pam_nil))))))
  (sm_one (sm_ret (pm_v 2))))))), hm, F.kp, (F.bindsN (ps := ["cell"]) fun _ _ _ _ _ _ us hl => match us, hl with | [_], _ => rfl)⟩
theorem sc_like_l : FnScope N_like_l ["found", "due"] (defScope (top 29)) := ⟨rfl, rfl, rfl, by decide +kernel, rfl, by decide +kernel, by decide +kernel⟩
theorem w_like_l (T : Tx K mg) : ∀ n : Nat, FnT P w K mg base (0 + n) "_law_like" .per (like_l_m n)
  | 0 => by
    obtain ⟨f, fd, F, hm⟩ := T.d_like_l
    exact FnT.none hm F.kp (F.bindsN (ps := ["found", "due"]) fun _ _ _ _ _ _ us hl => match us, hl with | [_, _], _ => rfl)
  | n + 1 => by
    obtain ⟨f, fd, F, hm⟩ := T.d_like_l
    have g_like_l := w_like_l T n
    exact ⟨f, fd, _, fn_ok (k := 0 + n) (N := N_like_l) (ps := ["found", "due"]) (m := like_l_b (like_l_m n)) F sc_like_l (by decide) (fun cdv A outer s H E B hr hB =>
  (sm_cons (sm_if (pq_val (pm_isi T.isinstance (by rfl) boot_tuple T.tuple (by rfl) (pm_v 1)))
  (sm_cons (sm_if (PW.pt (pq_or (pq_not (pq_val (pm_isi T.isinstance (by rfl) boot_tuple T.tuple (by rfl) (pm_v 0)))) (pq_or1 (pq_cmp (op_neA (hu200 hr)) r2_ne (pm_len T.len (by rfl) (pm_v 0)) (pm_len T.len (by rfl) (pm_v 1)) (nomark _)))))
  (sm_one (sm_ret pm_bl))
  sm_nil)
  (sm_cons (sm_forZ (i := 2) (j := 3) (passes_of (by rfl)) (by rfl) (by rfl) T.zip (pz_of (pm_fre (pm_v 0))) (pz_of (pm_fre (pm_v 1))) (pg_tup (by rfl) (pgs_cons (pg_name (i := 2) sc_like_l.nd (by rfl) (by first | exact Or.inl rfl | exact Or.inr rfl)) (pgs_cons (pg_name (i := 3) sc_like_l.nd (by rfl) (by first | exact Or.inl rfl | exact Or.inr rfl)) pgs_nil)))
  (sm_one (sm_if (pq_not (pq_val (pm_call g_like_l (hr.mono (by omega)) (by rfl) (pam_per (pm_v 2) (pam_per (pm_v 3) pam_nil)))))
  (sm_one (sm_ret pm_bl))
  sm_nil)) (by decide))
  (sm_one (sm_ret pm_bl))))
  sm_nil)
  (sm_cons (sm_if (pq_val (pm_isi T.isinstance (by rfl) boot_str T.str (by rfl) (pm_v 1)))
  (sm_one (sm_ret (pm_bool (pm_and (pm_isi T.isinstance (by rfl) boot_str T.str (by rfl) (pm_v 0)) (pm_one (pm_cmp (op_eqA (hu200 hr)) r2_eq (pm_v 0) (pm_v 1) (nomark _)))))))
  sm_nil)
  (sm_one (sm_ret (pm_bool (pm_and (pm_isi T.isinstance (by rfl) boot_int T.int (by rfl) (pm_v 0)) (pm_and (pm_not (pm_isi T.isinstance (by rfl) boot_bool T.bool (by rfl) (pm_v 0))) (pm_one (pm_cmp (op_eqA (hu200 hr)) r2_eq (pm_v 0) (pm_v 1) (nomark _))))))))))), hm, F.kp, (F.bindsN (ps := ["found", "due"]) fun _ _ _ _ _ _ us hl => match us, hl with | [_, _], _ => rfl)⟩
theorem sc_rows_like_l : FnScope N_rows_like_l ["found", "due"] (defScope (top 30)) := ⟨rfl, rfl, rfl, by decide +kernel, rfl, by decide +kernel, by decide +kernel⟩
theorem w_rows_like_l (T : Tx K mg) : FnT P w K mg base 141 "_law_rows_like" .per rows_like_l_m := by
  obtain ⟨f, fd, F, hm⟩ := T.d_rows_like_l
  have g_like_l : FnT P w K mg base 140 "_law_like" .per (like_l_m 140) := w_like_l T 140
  exact ⟨f, fd, _, fn_ok (k := 140) (N := N_rows_like_l) (ps := ["found", "due"]) (m := rows_like_l_b (like_l_m 140)) F sc_rows_like_l (by decide) (fun cdv A outer s H E B hr hB =>
  (sm_cons (sm_if (PW.pt (pq_or (pq_not (pq_val (pm_isi T.isinstance (by rfl) boot_list T.list (by rfl) (pm_v 0)))) (pq_or1 (pq_cmp (op_neA (hu200 hr)) r2_ne (pm_len T.len (by rfl) (pm_v 0)) (pm_len T.len (by rfl) (pm_v 1)) (nomark _)))))
  (sm_one (sm_ret pm_bl))
  sm_nil)
  (sm_cons (sm_forZ (i := 2) (j := 3) (passes_of (by rfl)) (by rfl) (by rfl) T.zip (pz_of (pm_fre (pm_v 0))) (pz_of (pm_fre (pm_v 1))) (pg_tup (by rfl) (pgs_cons (pg_name (i := 2) sc_rows_like_l.nd (by rfl) (by first | exact Or.inl rfl | exact Or.inr rfl)) (pgs_cons (pg_name (i := 3) sc_rows_like_l.nd (by rfl) (by first | exact Or.inl rfl | exact Or.inr rfl)) pgs_nil)))
  (sm_one (sm_if (pq_not (pq_val (pm_call g_like_l (hr.mono (by omega)) (by rfl) (pam_per (pm_v 2) (pam_per (pm_v 3) pam_nil)))))
  (sm_one (sm_ret pm_bl))
  sm_nil)) (by decide))
  (sm_one (sm_ret pm_bl))))), hm, F.kp, (F.bindsN (ps := ["found", "due"]) fun _ _ _ _ _ _ us hl => match us, hl with | [_, _], _ => rfl)⟩
theorem sc_whole_l : FnScope N_whole_l ["found", "due"] (defScope (top 31)) := ⟨rfl, rfl, rfl, by decide +kernel, rfl, by decide +kernel, by decide +kernel⟩
theorem w_whole_l (T : Tx K mg) : FnT P w K mg base 1 "_law_whole" .per whole_l_m := by
  obtain ⟨f, fd, F, hm⟩ := T.d_whole_l
  exact ⟨f, fd, _, fn_ok (k := 0) (N := N_whole_l) (ps := ["found", "due"]) (m := whole_l_b ) F sc_whole_l (by decide) (fun cdv A outer s H E B hr hB =>
  (sm_one (sm_ret (pm_bool (pm_and (pm_isi T.isinstance (by rfl) boot_int T.int (by rfl) (pm_v 0)) (pm_and (pm_not (pm_isi T.isinstance (by rfl) boot_bool T.bool (by rfl) (pm_v 0))) (pm_one (pm_cmp (op_eqA (hu200 hr)) r2_eq (pm_v 0) (pm_v 1) (nomark _))))))))), hm, F.kp, (F.bindsN (ps := ["found", "due"]) fun _ _ _ _ _ _ us hl => match us, hl with | [_, _], _ => rfl)⟩
theorem sc_stood_l : FnScope N_stood_l ["rows", "number"] (defScope (top 32)) := ⟨rfl, rfl, rfl, by decide +kernel, rfl, by decide +kernel, by decide +kernel⟩
theorem w_stood_l (T : Tx K mg) : FnT P w K mg base 1 "_law_stood" .per stood_l_m := by
  obtain ⟨f, fd, F, hm⟩ := T.d_stood_l
  exact ⟨f, fd, _, fn_ok (k := 0) (N := N_stood_l) (ps := ["rows", "number"]) (m := stood_l_b ) F sc_stood_l (by decide) (fun cdv A outer s H E B hr hB =>
  (sm_cons (sm_new (i := 2) sc_stood_l.nd (by rfl) (by first | exact Or.inl rfl | exact Or.inr rfl) (pm_lst (pam_per (pm_v 1) pam_nil)))
  (sm_cons (sm_new (i := 3) sc_stood_l.nd (by rfl) (by first | exact Or.inl rfl | exact Or.inr rfl) (pm_lst (pam_per (pm_v 1) pam_nil)))
  (sm_cons (sm_while 100 (passes_of (by rfl)) (pq_cmp op_gt r2_gt (pm_len T.len (by rfl) (pm_va 3)) pm_int (nomark _))
  (sm_cons (sm_pop (i := 3) (j := 4) sc_stood_l.nd (by rfl) (by first | exact Or.inl rfl | exact Or.inr rfl) (pe_bm0 PySem.F.plainAttrs_list PySem.F.slot_list_pop PySem.F.type_list_pop mt_pop (pv 3)))
  (sm_one (sm_for (i := 5) (passes_of (by rfl)) (by rfl) (pl_of (pm_fre (pm_ix (pm_ix (pm_va 0) (pm_v 4)) pm_int))) (pg_name (i := 5) sc_stood_l.nd (by rfl) (by first | exact Or.inl rfl | exact Or.inr rfl))
  (sm_one (sm_if (pq_cmp (op_notInA (hu200 hr)) r2_in (pm_v 5) (pm_va 2) (by rfl))
  (sm_cons (sm_app (i := 2) (pe_bm PySem.F.plainAttrs_list PySem.F.slot_list_append PySem.F.type_list_append mt_append (pv 2) (pa_cons (pm_v 5) pa_nil)))
  (sm_one (sm_app (i := 3) (pe_bm PySem.F.plainAttrs_list PySem.F.slot_list_append PySem.F.type_list_append mt_append (pv 3) (pa_cons (pm_v 5) pa_nil)))))
  sm_nil))))))
  (sm_one (sm_ret (pm_per (pm_nf (pm_sorted T.sorted rfl (pm_va 2)))))))))), hm, F.kp, (F.bindsN (ps := ["rows", "number"]) fun _ _ _ _ _ _ us hl => match us, hl with | [_, _], _ => rfl)⟩
theorem sc_Hall_seal_at : FnScope N_Hall_seal_at ["self", "number"] (defScope (inClass (top 24) 2)) := ⟨rfl, rfl, rfl, by decide +kernel, rfl, by decide +kernel, by decide +kernel⟩
theorem w_Hall_seal_at (T : Tx K mg) : MtT P w K mg base 1 "Hall" "seal_at" .per Hall_seal_at_m := by
  obtain ⟨fd, F⟩ := T.m_Hall_seal_at
  exact ⟨⟨_, fd, _, fn_ok (k := 0) (N := N_Hall_seal_at) (ps := ["self", "number"]) (m := Hall_seal_at_b ) F sc_Hall_seal_at (by decide) (fun cdv A outer s H E B hr hB =>
  (sm_cons (sm_if (pq_not (pq_chain op_le op_lt r2_le r2_lt pm_int (pm_v 1) (pm_len T.len (by rfl) (pm_attrL (i := 0) (C := "Hall") T.c_Hall T.na_Hall_seals (by rfl)))))
  (sm_one (sm_raise (c := "NoSeal") rfl (takes_of rfl rfl rfl rfl) T.e_NoSeal (by rfl)))
  sm_nil)
  (sm_one (sm_ret (pm_ix (pm_attrL (i := 0) (C := "Hall") T.c_Hall T.na_Hall_seals (by rfl)) (pm_v 1)))))), T.mt_Hall_seal_at, (F.bindsN (ps := ["self", "number"]) fun _ _ _ _ _ _ us hl => match us, hl with | [_, _], _ => rfl)⟩, T.c_Hall⟩
theorem sc_Hall_told : FnScope N_Hall_told ["self", "number"] (defScope (inClass (top 24) 15)) := ⟨rfl, rfl, rfl, by decide +kernel, rfl, by decide +kernel, by decide +kernel⟩
theorem wn_Hall_told (T : Tx K mg) : MtT P w K mg base 2 "Hall" "told" .new Hall_told_m := by
  obtain ⟨fd, F⟩ := T.m_Hall_told
  have g_Hall_seal_at : MtT P w K mg base 1 "Hall" "seal_at" .per Hall_seal_at_m := w_Hall_seal_at T
  exact ⟨⟨_, fd, _, fn_ok (k := 1) (N := N_Hall_told) (ps := ["self", "number"]) (m := Hall_told_b Hall_seal_at_m) F sc_Hall_told (by decide) (fun cdv A outer s H E B hr hB =>
  (sm_cons (sm_setX (i := 2) sc_Hall_told.nd (by rfl) (by first | exact Or.inl rfl | exact Or.inr rfl) (px_meth (a := .r 0) (i := 0) (.inr rfl) (takes_of rfl rfl rfl rfl) g_Hall_seal_at (hr.mono (by omega)) (by rfl) (xa_cons (px (pm_v 1)) xa_nil)))
  (sm_one (sm_retPN (pm_list T.list (by rfl) (pm_ix (pm_v 2) pm_int)) (pm_ix (pm_v 2) pm_int))))), T.mt_Hall_told, (F.bindsN (ps := ["self", "number"]) fun _ _ _ _ _ _ us hl => match us, hl with | [_, _], _ => rfl)⟩, T.c_Hall⟩
theorem w_Hall_told (T : Tx K mg) : MtT P w K mg base 2 "Hall" "told" .per Hall_told_m := by
  obtain ⟨fd, F⟩ := T.m_Hall_told
  have g_Hall_seal_at : MtT P w K mg base 1 "Hall" "seal_at" .per Hall_seal_at_m := w_Hall_seal_at T
  exact ⟨⟨_, fd, _, fn_ok (k := 1) (N := N_Hall_told) (ps := ["self", "number"]) (m := Hall_told_b Hall_seal_at_m) F sc_Hall_told (by decide) (fun cdv A outer s H E B hr hB =>
  (sm_cons (sm_setX (i := 2) sc_Hall_told.nd (by rfl) (by first | exact Or.inl rfl | exact Or.inr rfl) (px_meth (a := .r 0) (i := 0) (.inr rfl) (takes_of rfl rfl rfl rfl) g_Hall_seal_at (hr.mono (by omega)) (by rfl) (xa_cons (px (pm_v 1)) xa_nil)))
  (sm_one (sm_ret (pm_tup (pam_per (pm_per (pm_nf (pm_list T.list (by rfl) (pm_ix (pm_v 2) pm_int)))) (pam_per (pm_ix (pm_v 2) pm_int) pam_nil))))))), T.mt_Hall_told, (F.bindsN (ps := ["self", "number"]) fun _ _ _ _ _ _ us hl => match us, hl with | [_, _], _ => rfl)⟩, T.c_Hall⟩
theorem sc_Hall_bases : FnScope N_Hall_bases ["self", "number"] (defScope (inClass (top 24) 16)) := ⟨rfl, rfl, rfl, by decide +kernel, rfl, by decide +kernel, by decide +kernel⟩
theorem wn_Hall_bases (T : Tx K mg) : MtT P w K mg base 2 "Hall" "bases" .new Hall_bases_m := by
  obtain ⟨fd, F⟩ := T.m_Hall_bases
  have g_Hall_seal_at : MtT P w K mg base 1 "Hall" "seal_at" .per Hall_seal_at_m := w_Hall_seal_at T
  exact ⟨⟨_, fd, _, fn_ok (k := 1) (N := N_Hall_bases) (ps := ["self", "number"]) (m := Hall_bases_b Hall_seal_at_m) F sc_Hall_bases (by decide) (fun cdv A outer s H E B hr hB =>
  (sm_one (sm_retXL T.list (by rfl) (px_ix (px_meth (a := .r 0) (i := 0) (.inr rfl) (takes_of rfl rfl rfl rfl) g_Hall_seal_at (hr.mono (by omega)) (by rfl) (xa_cons (px (pm_v 1)) xa_nil)) (px pm_int))))), T.mt_Hall_bases, (F.bindsN (ps := ["self", "number"]) fun _ _ _ _ _ _ us hl => match us, hl with | [_, _], _ => rfl)⟩, T.c_Hall⟩
theorem w_Hall_bases (T : Tx K mg) : MtT P w K mg base 2 "Hall" "bases" .per Hall_bases_m := by
  obtain ⟨fd, F⟩ := T.m_Hall_bases
  have g_Hall_seal_at : MtT P w K mg base 1 "Hall" "seal_at" .per Hall_seal_at_m := w_Hall_seal_at T
  exact ⟨⟨_, fd, _, fn_ok (k := 1) (N := N_Hall_bases) (ps := ["self", "number"]) (m := Hall_bases_b Hall_seal_at_m) F sc_Hall_bases (by decide) (fun cdv A outer s H E B hr hB =>
  (sm_one (sm_retX (px_t1 (k := .new) (by intro z; cases z) call_list_of r1_list boot_list T.list (by rfl) (px_ix (px_meth (a := .r 0) (i := 0) (.inr rfl) (takes_of rfl rfl rfl rfl) g_Hall_seal_at (hr.mono (by omega)) (by rfl) (xa_cons (px (pm_v 1)) xa_nil)) (px pm_int)))))), T.mt_Hall_bases, (F.bindsN (ps := ["self", "number"]) fun _ _ _ _ _ _ us hl => match us, hl with | [_, _], _ => rfl)⟩, T.c_Hall⟩
theorem sc_Hall_stood : FnScope N_Hall_stood ["self", "number"] (defScope (inClass (top 24) 17)) := ⟨rfl, rfl, rfl, by decide +kernel, rfl, by decide +kernel, by decide +kernel⟩
theorem wn_Hall_stood (T : Tx K mg) : MtT P w K mg base 2 "Hall" "stood" .new Hall_stood_m := by
  obtain ⟨fd, F⟩ := T.m_Hall_stood
  have g_Hall_seal_at : MtT P w K mg base 1 "Hall" "seal_at" .per Hall_seal_at_m := w_Hall_seal_at T
  exact ⟨⟨_, fd, _, fn_ok (k := 1) (N := N_Hall_stood) (ps := ["self", "number"]) (m := Hall_stood_b Hall_seal_at_m) F sc_Hall_stood (by decide) (fun cdv A outer s H E B hr hB =>
  (sm_cons (sm_doX (px_meth (a := .r 0) (i := 0) (.inr rfl) (takes_of rfl rfl rfl rfl) g_Hall_seal_at (hr.mono (by omega)) (by rfl) (xa_cons (px (pm_v 1)) xa_nil)))
  (sm_cons (sm_dnew (i := 2) sc_Hall_stood.nd (by rfl) (by first | exact Or.inl rfl | exact Or.inr rfl) (pm_v 1))
  (sm_cons (sm_forR3 (i := 3) (passes_of (by rfl)) (by rfl) (by rfl) T.range (pm_v 1) (pm_neg pm_int) (pm_neg pm_int) (pg_name (i := 3) sc_Hall_stood.nd (by rfl) (by first | exact Or.inl rfl | exact Or.inr rfl))
  (sm_one (sm_if (pq_din (hu200 hr) (pm_v 3) 2)
  (sm_one (sm_for (i := 4) (passes_of (by rfl)) (by rfl) (pl_of (pm_fre (pm_ix (pm_ix (pm_attrL (i := 0) (C := "Hall") T.c_Hall T.na_Hall_seals (by rfl)) (pm_v 3)) pm_int))) (pg_name (i := 4) sc_Hall_stood.nd (by rfl) (by first | exact Or.inl rfl | exact Or.inr rfl))
  (sm_one (sm_dput (i := 2) (hu200 hr) (pm_v 4)))))
  sm_nil)))
  (sm_one (sm_retN (pm_sorted T.sorted rfl (pm_listD (by rfl) T.list (by rfl) 2)))))))), T.mt_Hall_stood, (F.bindsN (ps := ["self", "number"]) fun _ _ _ _ _ _ us hl => match us, hl with | [_, _], _ => rfl)⟩, T.c_Hall⟩
theorem w_Hall_stood (T : Tx K mg) : MtT P w K mg base 2 "Hall" "stood" .per Hall_stood_m := by
  obtain ⟨fd, F⟩ := T.m_Hall_stood
  have g_Hall_seal_at : MtT P w K mg base 1 "Hall" "seal_at" .per Hall_seal_at_m := w_Hall_seal_at T
  exact ⟨⟨_, fd, _, fn_ok (k := 1) (N := N_Hall_stood) (ps := ["self", "number"]) (m := Hall_stood_b Hall_seal_at_m) F sc_Hall_stood (by decide) (fun cdv A outer s H E B hr hB =>
  (sm_cons (sm_doX (px_meth (a := .r 0) (i := 0) (.inr rfl) (takes_of rfl rfl rfl rfl) g_Hall_seal_at (hr.mono (by omega)) (by rfl) (xa_cons (px (pm_v 1)) xa_nil)))
  (sm_cons (sm_dnew (i := 2) sc_Hall_stood.nd (by rfl) (by first | exact Or.inl rfl | exact Or.inr rfl) (pm_v 1))
  (sm_cons (sm_forR3 (i := 3) (passes_of (by rfl)) (by rfl) (by rfl) T.range (pm_v 1) (pm_neg pm_int) (pm_neg pm_int) (pg_name (i := 3) sc_Hall_stood.nd (by rfl) (by first | exact Or.inl rfl | exact Or.inr rfl))
  (sm_one (sm_if (pq_din (hu200 hr) (pm_v 3) 2)
  (sm_one (sm_for (i := 4) (passes_of (by rfl)) (by rfl) (pl_of (pm_fre (pm_ix (pm_ix (pm_attrL (i := 0) (C := "Hall") T.c_Hall T.na_Hall_seals (by rfl)) (pm_v 3)) pm_int))) (pg_name (i := 4) sc_Hall_stood.nd (by rfl) (by first | exact Or.inl rfl | exact Or.inr rfl))
  (sm_one (sm_dput (i := 2) (hu200 hr) (pm_v 4)))))
  sm_nil)))
  (sm_one (sm_ret (pm_per (pm_nf (pm_sorted T.sorted rfl (pm_listD (by rfl) T.list (by rfl) 2)))))))))), T.mt_Hall_stood, (F.bindsN (ps := ["self", "number"]) fun _ _ _ _ _ _ us hl => match us, hl with | [_, _], _ => rfl)⟩, T.c_Hall⟩
theorem sc_no_seal_l : FnScope N_no_seal_l ["hall", "number"] (defScope (top 33)) := ⟨rfl, rfl, rfl, by decide +kernel, rfl, by decide +kernel, by decide +kernel⟩
theorem w_no_seal_l (T : Tx K mg) : FnT P w K mg base 3 "_law_no_seal" .per no_seal_l_m := by
  obtain ⟨f, fd, F, hm⟩ := T.d_no_seal_l
  have g_Hall_told : MtT P w K mg base 2 "Hall" "told" .per Hall_told_m := w_Hall_told T
  have g_Hall_bases : MtT P w K mg base 2 "Hall" "bases" .per Hall_bases_m := w_Hall_bases T
  have g_Hall_stood : MtT P w K mg base 2 "Hall" "stood" .per Hall_stood_m := w_Hall_stood T
  exact ⟨f, fd, _, fn_ok (k := 2) (N := N_no_seal_l) (ps := ["hall", "number"]) (m := no_seal_l_b Hall_told_m Hall_bases_m Hall_stood_m) F sc_no_seal_l (by decide) (fun cdv A outer s H E B hr hB =>
  (sm_cons (sm_set (i := 2) sc_no_seal_l.nd (by rfl) (by first | exact Or.inl rfl | exact Or.inr rfl) pm_int)
  (sm_cons (sm_forR1 (i := 3) (passes_of (by rfl)) (by rfl) (by rfl) T.range pm_int (pg_name (i := 3) sc_no_seal_l.nd (by rfl) (by first | exact Or.inl rfl | exact Or.inr rfl))
  (sm_one (sm_tryAs (es := ["NoSeal", "Unfit", "TooLarge", "NoThing", "NoWord"]) (i := 4) (C := "HallError") rfl rfl sc_no_seal_l.nd (by rfl) (by rfl) ⟨by rfl, by decide, .inl T.g_HallError⟩ (T.err.exm (by decide)) (takes_of rfl rfl rfl rfl) (fun W pn xe tk po =>
  (sm_one (sm_if (pq_cmp (op_eqA (hu200 hr)) r2_eq (pm_v 3) pm_int (nomark _))
  (sm_one (sm_doX (px_meth (a := .r 0) (i := 0) (.inr rfl) tk g_Hall_told (hr.mono (by omega)) (by rfl) (xa_cons (px (pm_v 1)) xa_nil))))
  (sm_one (sm_if (pq_cmp (op_eqA (hu200 hr)) r2_eq (pm_v 3) pm_int (nomark _))
  (sm_one (sm_doX (px_meth (a := .r 0) (i := 0) (.inr rfl) tk g_Hall_bases (hr.mono (by omega)) (by rfl) (xa_cons (px (pm_v 1)) xa_nil))))
  (sm_one (sm_doX (px_meth (a := .r 0) (i := 0) (.inr rfl) tk g_Hall_stood (hr.mono (by omega)) (by rfl) (xa_cons (px (pm_v 1)) xa_nil))))))))) (fun a oe pn =>
  (sm_cons (sm_set (i := 5) sc_no_seal_l.nd (by rfl) (by first | exact Or.inl rfl | exact Or.inr rfl) (pm_bool (pm_or (pm_isE T.err (C := "NoThing") (by decide) T.isinstance (by rfl) (by rfl) T.g_NoThing (by rfl)) (pm_one (pm_isE T.err (C := "NoWord") (by decide) T.isinstance (by rfl) (by rfl) T.g_NoWord (by rfl))))))
  (sm_cons (sm_set (i := 5) sc_no_seal_l.nd (by rfl) (by first | exact Or.inl rfl | exact Or.inr rfl) (pm_bool (pm_or (pm_v 5) (pm_or (pm_isE T.err (C := "TooLarge") (by decide) T.isinstance (by rfl) (by rfl) T.g_TooLarge (by rfl)) (pm_one (pm_isE T.err (C := "Unfit") (by decide) T.isinstance (by rfl) (by rfl) T.g_Unfit (by rfl)))))))
  (sm_one (sm_set (i := 2) sc_no_seal_l.nd (by rfl) (by first | exact Or.inl rfl | exact Or.inr rfl) (pm_per (pm_op op_addA r2_add (pm_v 2) (pm_toint T.int (by rfl) (pm_bool (pm_and (pm_isE T.err (C := "NoSeal") (by decide) T.isinstance (by rfl) (by rfl) T.g_NoSeal (by rfl)) (pm_and (pm_isV T.err T.isinstance (by rfl) (by rfl) T.ValueError (by rfl)) (pm_one (pm_not (pm_v 5)))))))))))))))))
  (sm_one (sm_ret (pm_cmp (op_eqA (hu200 hr)) r2_eq (pm_v 2) pm_int (nomark _))))))), hm, F.kp, (F.bindsN (ps := ["hall", "number"]) fun _ _ _ _ _ _ us hl => match us, hl with | [_, _], _ => rfl)⟩
theorem sc_Hall_sealed : FnScope N_Hall_sealed ["self", "under", "said", "bases", "given"] (defScope (inClass (top 24) 3)) := ⟨rfl, rfl, rfl, by decide +kernel, rfl, by decide +kernel, by decide +kernel⟩
theorem w_Hall_sealed (T : Tx K mg) : MtT P w K mg base 143 "Hall" "sealed" .per Hall_sealed_m := by
  obtain ⟨fd, F⟩ := T.m_Hall_sealed
  have g_fair : FnT P w K mg base 142 "fair" .per fair_m := w_fair T
  exact ⟨⟨_, fd, _, fn_ok (k := 142) (N := N_Hall_sealed) (ps := ["self", "under", "said", "bases", "given"]) (m := Hall_sealed_b fair_m) F sc_Hall_sealed (by decide) (fun cdv A outer s H E B hr hB =>
  (sm_cons (sm_if (PW.pt (pq_or (pq_cmp op_gt r2_gt (pm_len T.len (by rfl) (pm_v 1)) pm_int (nomark _)) (pq_or1 (pq_not (pq_val (pm_call g_fair (hr.mono (by omega)) (by rfl) (pam_per (pm_v 2) pam_nil)))))))
  (sm_one (sm_raise (c := "TooLarge") rfl (takes_of rfl rfl rfl rfl) T.e_TooLarge (by rfl)))
  sm_nil)
  (sm_cons (sm_appF (i := 0) (C := "Hall") (f := "seals") T.c_Hall T.na_Hall_seals (pe_bm PySem.F.plainAttrs_list PySem.F.slot_list_append PySem.F.type_list_append mt_append (pe_fld (pv 0) (by rfl)) (pa_cons (pm_tup (pam_per (pm_tuple T.tuple (by rfl) (pm_v 1)) (pam_per (pm_v 2) (pam_per (pm_tuple T.tuple (by rfl) (pm_v 3)) (pam_per (pm_tuple T.tuple (by rfl) (pm_v 4)) pam_nil))))) pa_nil)))
  (sm_one (sm_ret (pm_op op_sub r2_sub (pm_len T.len (by rfl) (pm_attrL (i := 0) (C := "Hall") T.c_Hall T.na_Hall_seals (by rfl))) pm_int)))))), T.mt_Hall_sealed, (F.bindsN (ps := ["self", "under", "said", "bases", "given"]) fun _ _ _ _ _ _ us hl => match us, hl with | [_, _, _, _, _], _ => rfl)⟩, T.c_Hall⟩
theorem sc_Hall_assume : FnScope N_Hall_assume ["self", "form"] (defScope (inClass (top 24) 4)) := ⟨rfl, rfl, rfl, by decide +kernel, rfl, by decide +kernel, by decide +kernel⟩
theorem w_Hall_assume (T : Tx K mg) : MtT P w K mg base 144 "Hall" "assume" .per Hall_assume_m := by
  obtain ⟨fd, F⟩ := T.m_Hall_assume
  have g_Hall_sealed : MtT P w K mg base 143 "Hall" "sealed" .per Hall_sealed_m := w_Hall_sealed T
  exact ⟨⟨_, fd, _, fn_ok (k := 143) (N := N_Hall_assume) (ps := ["self", "form"]) (m := Hall_assume_b Hall_sealed_m) F sc_Hall_assume (by decide) (fun cdv A outer s H E B hr hB =>
  (sm_one (sm_retX (px_meth (a := .o 0) (i := 0) (.inl rfl) (takes_of rfl rfl rfl rfl) g_Hall_sealed (hr.mono (by omega)) (by rfl) (xa_cons (px (pm_per (pm_nf (pm_lst (pam_per (pm_v 1) pam_nil))))) (xa_cons (px (pm_v 1)) (xa_cons (px (pm_per (pm_nf (pm_lst pam_nil)))) (xa_cons (px (pm_per (pm_nf (pm_lst pam_nil)))) xa_nil)))))))), T.mt_Hall_assume, (F.bindsN (ps := ["self", "form"]) fun _ _ _ _ _ _ us hl => match us, hl with | [_, _], _ => rfl)⟩, T.c_Hall⟩
theorem sc_Hall_apply : FnScope N_Hall_apply ["self", "number", "other"] (defScope (inClass (top 24) 6)) := ⟨rfl, rfl, rfl, by decide +kernel, rfl, by decide +kernel, by decide +kernel⟩
theorem w_Hall_apply (T : Tx K mg) : MtT P w K mg base 144 "Hall" "apply" .per Hall_apply_m := by
  obtain ⟨fd, F⟩ := T.m_Hall_apply
  have g_Hall_seal_at : MtT P w K mg base 1 "Hall" "seal_at" .per Hall_seal_at_m := w_Hall_seal_at T
  have g_together : FnT P w K mg base 1 "together" .per together_m := w_together T
  have g_Hall_sealed : MtT P w K mg base 143 "Hall" "sealed" .per Hall_sealed_m := w_Hall_sealed T
  have g_joined : FnT P w K mg base 1 "joined" .per joined_m := w_joined T
  exact ⟨⟨_, fd, _, fn_ok (k := 143) (N := N_Hall_apply) (ps := ["self", "number", "other"]) (m := Hall_apply_b Hall_seal_at_m together_m Hall_sealed_m joined_m) F sc_Hall_apply (by decide) (fun cdv A outer s H E B hr hB =>
  (sm_cons (sm_setX (i := 3) sc_Hall_apply.nd (by rfl) (by first | exact Or.inl rfl | exact Or.inr rfl) (px_meth (a := .r 0) (i := 0) (.inr rfl) (takes_of rfl rfl rfl rfl) g_Hall_seal_at (hr.mono (by omega)) (by rfl) (xa_cons (px (pm_v 1)) xa_nil)))
  (sm_cons (sm_setX (i := 4) sc_Hall_apply.nd (by rfl) (by first | exact Or.inl rfl | exact Or.inr rfl) (px_meth (a := .r 0) (i := 0) (.inr rfl) (takes_of rfl rfl rfl rfl) g_Hall_seal_at (hr.mono (by omega)) (by rfl) (xa_cons (px (pm_v 2)) xa_nil)))
  (sm_cons (sm_set (i := 5) sc_Hall_apply.nd (by rfl) (by first | exact Or.inl rfl | exact Or.inr rfl) (pm_ix (pm_v 3) pm_int))
  (sm_cons (sm_if (PW.pt (pq_or (pq_cmp (op_neA (hu200 hr)) r2_ne (pm_ix (pm_v 5) pm_int) pm_str (nomark _)) (pq_or1 (pq_cmp (op_neA (hu200 hr)) r2_ne (pm_ix (pm_v 5) pm_int) (pm_ix (pm_v 4) pm_int) (nomark _)))))
  (sm_one (sm_raise (c := "Unfit") rfl (takes_of rfl rfl rfl rfl) T.e_Unfit (by rfl)))
  sm_nil)
  (sm_cons (sm_set (i := 6) sc_Hall_apply.nd (by rfl) (by first | exact Or.inl rfl | exact Or.inr rfl) (pm_call g_together (hr.mono (by omega)) (by rfl) (pam_per (pm_ix (pm_v 3) pm_int) (pam_per (pm_ix (pm_v 4) pm_int) pam_nil))))
  (sm_one (sm_retX (px_meth (a := .o 0) (i := 0) (.inl rfl) (takes_of rfl rfl rfl rfl) g_Hall_sealed (hr.mono (by omega)) (by rfl) (xa_cons (px (pm_call g_joined (hr.mono (by omega)) (by rfl) (pam_per (pm_ix (pm_v 3) pm_int) (pam_per (pm_ix (pm_v 4) pm_int) pam_nil)))) (xa_cons (px (pm_ix (pm_v 5) pm_int)) (xa_cons (px (pm_v 6)) (xa_cons (px (pm_per (pm_nf (pm_lst (pam_per (pm_v 1) (pam_per (pm_v 2) pam_nil)))))) xa_nil))))))))))))), T.mt_Hall_apply, (F.bindsN (ps := ["self", "number", "other"]) fun _ _ _ _ _ _ us hl => match us, hl with | [_, _, _], _ => rfl)⟩, T.c_Hall⟩
theorem sc_Hall_axiom : FnScope N_Hall_axiom ["self", "form"] (defScope (inClass (top 24) 13)) := ⟨rfl, rfl, rfl, by decide +kernel, rfl, by decide +kernel, by decide +kernel⟩
theorem w_Hall_axiom (T : Tx K mg) : MtT P w K mg base 144 "Hall" "axiom" .per Hall_axiom_m := by
  obtain ⟨fd, F⟩ := T.m_Hall_axiom
  have g_all_bound : FnT P w K mg base 71 "all_bound" .per (all_bound_m 70) := w_all_bound T 70
  have g_Hall_sealed : MtT P w K mg base 143 "Hall" "sealed" .per Hall_sealed_m := w_Hall_sealed T
  exact ⟨⟨_, fd, _, fn_ok (k := 143) (N := N_Hall_axiom) (ps := ["self", "form"]) (m := Hall_axiom_b (all_bound_m 70) Hall_sealed_m) F sc_Hall_axiom (by decide) (fun cdv A outer s H E B hr hB =>
  (sm_cons (sm_if (pq_not (pq_val (pm_call g_all_bound (hr.mono (by omega)) (by rfl) (pam_per (pm_v 1) (pam_per pm_int pam_nil)))))
  (sm_one (sm_raise (c := "Unfit") rfl (takes_of rfl rfl rfl rfl) T.e_Unfit (by rfl)))
  sm_nil)
  (sm_cons (sm_setX (i := 2) sc_Hall_axiom.nd (by rfl) (by first | exact Or.inl rfl | exact Or.inr rfl) (px_meth (a := .o 0) (i := 0) (.inl rfl) (takes_of rfl rfl rfl rfl) g_Hall_sealed (hr.mono (by omega)) (by rfl) (xa_cons (px (pm_per (pm_nf (pm_lst pam_nil)))) (xa_cons (px (pm_v 1)) (xa_cons (px (pm_per (pm_nf (pm_lst (pam_per (pm_len T.len (by rfl) (pm_attrL (i := 0) (C := "Hall") T.c_Hall T.na_Hall_ground (by rfl))) pam_nil))))) (xa_cons (px (pm_per (pm_nf (pm_lst pam_nil)))) xa_nil))))))
  (sm_cons (sm_appF (i := 0) (C := "Hall") (f := "ground") T.c_Hall T.na_Hall_ground (pe_bm PySem.F.plainAttrs_list PySem.F.slot_list_append PySem.F.type_list_append mt_append (pe_fld (pv 0) (by rfl)) (pa_cons (pm_v 1) pa_nil)))
  (sm_one (sm_ret (pm_v 2))))))), T.mt_Hall_axiom, (F.bindsN (ps := ["self", "form"]) fun _ _ _ _ _ _ us hl => match us, hl with | [_, _], _ => rfl)⟩, T.c_Hall⟩
theorem sc_Hall_drop : FnScope N_Hall_drop ["self", "number", "form"] (defScope (inClass (top 24) 5)) := ⟨rfl, rfl, rfl, by decide +kernel, rfl, by decide +kernel, by decide +kernel⟩
theorem w_Hall_drop (T : Tx K mg) : MtT P w K mg base 144 "Hall" "drop" .per Hall_drop_m := by
  obtain ⟨fd, F⟩ := T.m_Hall_drop
  have g_Hall_seal_at : MtT P w K mg base 1 "Hall" "seal_at" .per Hall_seal_at_m := w_Hall_seal_at T
  have g_Hall_sealed : MtT P w K mg base 143 "Hall" "sealed" .per Hall_sealed_m := w_Hall_sealed T
  have g_without : FnT P w K mg base 1 "without" .per without_m := w_without T
  exact ⟨⟨_, fd, _, fn_ok (k := 143) (N := N_Hall_drop) (ps := ["self", "number", "form"]) (m := Hall_drop_b Hall_seal_at_m Hall_sealed_m without_m) F sc_Hall_drop (by decide) (fun cdv A outer s H E B hr hB =>
  (sm_cons (sm_setX (i := 3) sc_Hall_drop.nd (by rfl) (by first | exact Or.inl rfl | exact Or.inr rfl) (px_meth (a := .r 0) (i := 0) (.inr rfl) (takes_of rfl rfl rfl rfl) g_Hall_seal_at (hr.mono (by omega)) (by rfl) (xa_cons (px (pm_v 1)) xa_nil)))
  (sm_one (sm_retX (px_meth (a := .o 0) (i := 0) (.inl rfl) (takes_of rfl rfl rfl rfl) g_Hall_sealed (hr.mono (by omega)) (by rfl) (xa_cons (px (pm_call g_without (hr.mono (by omega)) (by rfl) (pam_per (pm_ix (pm_v 3) pm_int) (pam_per (pm_v 2) pam_nil)))) (xa_cons (px (pm_tup (pam_per pm_str (pam_per (pm_v 2) (pam_per (pm_ix (pm_v 3) pm_int) pam_nil))))) (xa_cons (px (pm_ix (pm_v 3) pm_int)) (xa_cons (px (pm_per (pm_nf (pm_lst (pam_per (pm_v 1) pam_nil))))) xa_nil))))))))), T.mt_Hall_drop, (F.bindsN (ps := ["self", "number", "form"]) fun _ _ _ _ _ _ us hl => match us, hl with | [_, _, _], _ => rfl)⟩, T.c_Hall⟩
theorem sc_Hall_more : FnScope N_Hall_more ["self", "number", "form"] (defScope (inClass (top 24) 12)) := ⟨rfl, rfl, rfl, by decide +kernel, rfl, by decide +kernel, by decide +kernel⟩
theorem w_Hall_more (T : Tx K mg) : MtT P w K mg base 144 "Hall" "more" .per Hall_more_m := by
  obtain ⟨fd, F⟩ := T.m_Hall_more
  have g_Hall_seal_at : MtT P w K mg base 1 "Hall" "seal_at" .per Hall_seal_at_m := w_Hall_seal_at T
  have g_Hall_sealed : MtT P w K mg base 143 "Hall" "sealed" .per Hall_sealed_m := w_Hall_sealed T
  have g_joined : FnT P w K mg base 1 "joined" .per joined_m := w_joined T
  exact ⟨⟨_, fd, _, fn_ok (k := 143) (N := N_Hall_more) (ps := ["self", "number", "form"]) (m := Hall_more_b Hall_seal_at_m Hall_sealed_m joined_m) F sc_Hall_more (by decide) (fun cdv A outer s H E B hr hB =>
  (sm_cons (sm_setX (i := 3) sc_Hall_more.nd (by rfl) (by first | exact Or.inl rfl | exact Or.inr rfl) (px_meth (a := .r 0) (i := 0) (.inr rfl) (takes_of rfl rfl rfl rfl) g_Hall_seal_at (hr.mono (by omega)) (by rfl) (xa_cons (px (pm_v 1)) xa_nil)))
  (sm_one (sm_retX (px_meth (a := .o 0) (i := 0) (.inl rfl) (takes_of rfl rfl rfl rfl) g_Hall_sealed (hr.mono (by omega)) (by rfl) (xa_cons (px (pm_call g_joined (hr.mono (by omega)) (by rfl) (pam_per (pm_ix (pm_v 3) pm_int) (pam_per (pm_per (pm_nf (pm_lst (pam_per (pm_v 2) pam_nil)))) pam_nil)))) (xa_cons (px (pm_ix (pm_v 3) pm_int)) (xa_cons (px (pm_ix (pm_v 3) pm_int)) (xa_cons (px (pm_per (pm_nf (pm_lst (pam_per (pm_v 1) pam_nil))))) xa_nil))))))))), T.mt_Hall_more, (F.bindsN (ps := ["self", "number", "form"]) fun _ _ _ _ _ _ us hl => match us, hl with | [_, _, _], _ => rfl)⟩, T.c_Hall⟩
theorem sc_more_l : FnScope N_more_l ["hall", "rows", "axioms", "seed", "name"] (defScope (top 34)) := ⟨rfl, rfl, rfl, by decide +kernel, rfl, by decide +kernel, by decide +kernel⟩
theorem w_more_l (T : Tx K mg) : FnT P w K mg base 145 "_law_more" .per more_l_m := by
  obtain ⟨f, fd, F, hm⟩ := T.d_more_l
  have g_Hall_assume : MtT P w K mg base 144 "Hall" "assume" .per Hall_assume_m := w_Hall_assume T
  have g_Hall_axiom : MtT P w K mg base 144 "Hall" "axiom" .per Hall_axiom_m := w_Hall_axiom T
  have g_Hall_drop : MtT P w K mg base 144 "Hall" "drop" .per Hall_drop_m := w_Hall_drop T
  have g_Hall_more : MtT P w K mg base 144 "Hall" "more" .per Hall_more_m := w_Hall_more T
  have g_Hall_told : MtT P w K mg base 2 "Hall" "told" .per Hall_told_m := w_Hall_told T
  have g_Hall_apply : MtT P w K mg base 144 "Hall" "apply" .per Hall_apply_m := w_Hall_apply T
  exact ⟨f, fd, _, fn_ok (k := 144) (N := N_more_l) (ps := ["hall", "rows", "axioms", "seed", "name"]) (m := more_l_b Hall_assume_m Hall_axiom_m Hall_drop_m Hall_more_m Hall_told_m Hall_apply_m) F sc_more_l (by decide) (fun cdv A outer s H E B hr hB =>
  (sm_cons (sm_set (i := 5) sc_more_l.nd (by rfl) (by first | exact Or.inl rfl | exact Or.inr rfl) (pm_tup (pam_per pm_str (pam_per (pm_v 4) (pam_per (pm_tup (pam_per (pm_tup (pam_per pm_str (pam_per (pm_op op_mod r2_mod (pm_op op_fdiv r2_div (pm_v 3) pm_int) pm_int) pam_nil))) pam_nil)) pam_nil)))))
  (sm_cons (sm_set (i := 6) sc_more_l.nd (by rfl) (by first | exact Or.inl rfl | exact Or.inr rfl) (pm_op op_mod r2_mod (pm_v 3) pm_int))
  (sm_cons (sm_set (i := 7) sc_more_l.nd (by rfl) (by first | exact Or.inl rfl | exact Or.inr rfl) (pm_op op_mod r2_mod (pm_op op_fdiv r2_div (pm_v 3) pm_int) (pm_max (by rfl) T.max (by rfl) pm_int (pm_len T.len (by rfl) (pm_va 1)))))
  (sm_cons (sm_if (PW.pt (pq_or (pq_cmp (op_eqA (hu200 hr)) r2_eq (pm_len T.len (by rfl) (pm_va 1)) pm_int (nomark _)) (pq_or1 (pq_cmp (op_eqA (hu200 hr)) r2_eq (pm_v 6) pm_int (nomark _)))))
  (sm_cons (sm_app (i := 1) (pe_bm PySem.F.plainAttrs_list PySem.F.slot_list_append PySem.F.type_list_append mt_append (pv 1) (pa_cons (pm_tup (pam_per (pm_per (pm_nf (pm_lst pam_nil))) (pam_per (pm_per (pm_nf (pm_lst pam_nil))) pam_nil))) pa_nil)))
  (sm_one (sm_retX (px_meth (a := .o 0) (i := 0) (.inl rfl) (takes_of rfl rfl rfl rfl) g_Hall_assume (hr.mono (by omega)) (by rfl) (xa_cons (px (pm_v 5)) xa_nil)))))
  sm_nil)
  (sm_cons (sm_if (pq_cmp (op_eqA (hu200 hr)) r2_eq (pm_v 6) pm_int (nomark _))
  (sm_cons (sm_app (i := 2) (pe_bm PySem.F.plainAttrs_list PySem.F.slot_list_append PySem.F.type_list_append mt_append (pv 2) (pa_cons (pm_tup (pam_per pm_str (pam_per (pm_v 4) (pam_per (pm_tup pam_nil) pam_nil)))) pa_nil)))
  (sm_cons (sm_app (i := 1) (pe_bm PySem.F.plainAttrs_list PySem.F.slot_list_append PySem.F.type_list_append mt_append (pv 1) (pa_cons (pm_tup (pam_per (pm_per (pm_nf (pm_lst pam_nil))) (pam_per (pm_per (pm_nf (pm_lst (pam_per (pm_op op_sub r2_sub (pm_len T.len (by rfl) (pm_va 2)) pm_int) pam_nil)))) pam_nil))) pa_nil)))
  (sm_one (sm_retX (px_meth (a := .o 0) (i := 0) (.inl rfl) (takes_of rfl rfl rfl rfl) g_Hall_axiom (hr.mono (by omega)) (by rfl) (xa_cons (px (pm_tup (pam_per pm_str (pam_per (pm_v 4) (pam_per (pm_tup pam_nil) pam_nil))))) xa_nil))))))
  sm_nil)
  (sm_cons (sm_if (pq_cmp (op_eqA (hu200 hr)) r2_eq (pm_v 6) pm_int (nomark _))
  (sm_cons (sm_app (i := 1) (pe_bm PySem.F.plainAttrs_list PySem.F.slot_list_append PySem.F.type_list_append mt_append (pv 1) (pa_cons (pm_tup (pam_per (pm_per (pm_nf (pm_lst (pam_per (pm_v 7) pam_nil)))) (pam_per (pm_ix (pm_ix (pm_va 1) (pm_v 7)) pm_int) pam_nil))) pa_nil)))
  (sm_one (sm_retX (px_meth (a := .o 0) (i := 0) (.inl rfl) (takes_of rfl rfl rfl rfl) g_Hall_drop (hr.mono (by omega)) (by rfl) (xa_cons (px (pm_v 7)) (xa_cons (px (pm_v 5)) xa_nil))))))
  sm_nil)
  (sm_cons (sm_if (pq_cmp (op_eqA (hu200 hr)) r2_eq (pm_v 6) pm_int (nomark _))
  (sm_cons (sm_app (i := 1) (pe_bm PySem.F.plainAttrs_list PySem.F.slot_list_append PySem.F.type_list_append mt_append (pv 1) (pa_cons (pm_tup (pam_per (pm_per (pm_nf (pm_lst (pam_per (pm_v 7) pam_nil)))) (pam_per (pm_ix (pm_ix (pm_va 1) (pm_v 7)) pm_int) pam_nil))) pa_nil)))
  (sm_one (sm_retX (px_meth (a := .o 0) (i := 0) (.inl rfl) (takes_of rfl rfl rfl rfl) g_Hall_more (hr.mono (by omega)) (by rfl) (xa_cons (px (pm_v 7)) (xa_cons (px (pm_v 5)) xa_nil))))))
  sm_nil)
  (sm_cons (sm_setX (i := 8) sc_more_l.nd (by rfl) (by first | exact Or.inl rfl | exact Or.inr rfl) (px_ix (px_meth (a := .r 0) (i := 0) (.inr rfl) (takes_of rfl rfl rfl rfl) g_Hall_told (hr.mono (by omega)) (by rfl) (xa_cons (px (pm_v 7)) xa_nil)) (px pm_int)))
  (sm_cons (sm_app (i := 1) (pe_bm PySem.F.plainAttrs_list PySem.F.slot_list_append PySem.F.type_list_append mt_append (pv 1) (pa_cons (pm_tup (pam_per (pm_per (pm_nf (pm_lst pam_nil))) (pam_per (pm_per (pm_nf (pm_lst pam_nil))) pam_nil))) pa_nil)))
  (sm_cons (sm_set (i := 9) sc_more_l.nd (by rfl) (by first | exact Or.inl rfl | exact Or.inr rfl) (pm_op op_sub r2_sub (pm_len T.len (by rfl) (pm_va 1)) pm_int))
  (sm_cons (sm_doX (px_meth (a := .o 0) (i := 0) (.inl rfl) (takes_of rfl rfl rfl rfl) g_Hall_assume (hr.mono (by omega)) (by rfl) (xa_cons (px (pm_tup (pam_per pm_str (pam_per (pm_v 8) (pam_per (pm_tup (pam_per pm_str pam_nil)) pam_nil))))) xa_nil)))
  (sm_cons (sm_app (i := 1) (pe_bm PySem.F.plainAttrs_list PySem.F.slot_list_append PySem.F.type_list_append mt_append (pv 1) (pa_cons (pm_tup (pam_per (pm_per (pm_nf (pm_lst (pam_per (pm_v 9) (pam_per (pm_v 7) pam_nil))))) (pam_per (pm_ix (pm_ix (pm_va 1) (pm_v 7)) pm_int) pam_nil))) pa_nil)))
  (sm_one (sm_retX (px_meth (a := .o 0) (i := 0) (.inl rfl) (takes_of rfl rfl rfl rfl) g_Hall_apply (hr.mono (by omega)) (by rfl) (xa_cons (px (pm_v 9)) (xa_cons (px (pm_v 7)) xa_nil)))))))))))))))))), hm, F.kp, (F.bindsN (ps := ["hall", "rows", "axioms", "seed", "name"]) fun _ _ _ _ _ _ us hl => match us, hl with | [_, _, _, _, _], _ => rfl)⟩
theorem sc_rows_like_b_l : FnScope N_rows_like_b_l ["found", "due"] (defScope (top 30)) := ⟨rfl, rfl, rfl, by decide +kernel, rfl, by decide +kernel, by decide +kernel⟩
theorem w_rows_like_b_l (T : Tx K mg) : FnT P w K mg base 141 "_law_rows_like" .per rows_like_b_l_m := by
  obtain ⟨f, fd, F, hm⟩ := T.d_rows_like_l
  have g_like_l : FnT P w K mg base 140 "_law_like" .per (like_l_m 140) := w_like_l T 140
  exact ⟨f, fd, _, fn_ok (k := 140) (N := N_rows_like_b_l) (ps := ["found", "due"]) (m := rows_like_b_l_b (like_l_m 140)) F sc_rows_like_b_l (by decide) (fun cdv A outer s H E B hr hB =>
  (sm_cons (sm_if (PW.pt (pq_or (pq_not (pq_val (pm_isi T.isinstance (by rfl) boot_list T.list (by rfl) (pm_va 0)))) (pq_or1 (pq_cmp (op_neA (hu200 hr)) r2_ne (pm_len T.len (by rfl) (pm_va 0)) (pm_len T.len (by rfl) (pm_va 1)) (nomark _)))))
  (sm_one (sm_ret pm_bl))
  sm_nil)
  (sm_cons (sm_forZ (i := 2) (j := 3) (passes_of (by rfl)) (by rfl) (by rfl) T.zip (pz_b 0) (pz_b 1) (pg_tup (by rfl) (pgs_cons (pg_name (i := 2) sc_rows_like_b_l.nd (by rfl) (by first | exact Or.inl rfl | exact Or.inr rfl)) (pgs_cons (pg_name (i := 3) sc_rows_like_b_l.nd (by rfl) (by first | exact Or.inl rfl | exact Or.inr rfl)) pgs_nil)))
  (sm_one (sm_if (pq_not (pq_val (pm_call g_like_l (hr.mono (by omega)) (by rfl) (pam_per (pm_v 2) (pam_per (pm_v 3) pam_nil)))))
  (sm_one (sm_ret pm_bl))
  sm_nil)) (by decide))
  (sm_one (sm_ret pm_bl))))), hm, F.kp, (F.bindsN (ps := ["found", "due"]) fun _ _ _ _ _ _ us hl => match us, hl with | [_, _], _ => rfl)⟩
theorem sc_right_l : FnScope N_right_l ["hall", "rows", "number"] (defScope (top 35)) := ⟨rfl, rfl, rfl, by decide +kernel, rfl, by decide +kernel, by decide +kernel⟩
theorem w_right_l (T : Tx K mg) : FnT P w K mg base 142 "_law_right" .per right_l_m := by
  obtain ⟨f, fd, F, hm⟩ := T.d_right_l
  have g_Hall_stood : MtT P w K mg base 2 "Hall" "stood" .per Hall_stood_m := w_Hall_stood T
  have g_rows_like_b_l : FnT P w K mg base 141 "_law_rows_like" .per rows_like_b_l_m := w_rows_like_b_l T
  have g_stood_l : FnT P w K mg base 1 "_law_stood" .per stood_l_m := w_stood_l T
  have g_Hall_told : MtT P w K mg base 2 "Hall" "told" .per Hall_told_m := w_Hall_told T
  have g_rows_like_l : FnT P w K mg base 141 "_law_rows_like" .per rows_like_l_m := w_rows_like_l T
  have gn_Hall_stood : MtT P w K mg base 2 "Hall" "stood" .new Hall_stood_m := wn_Hall_stood T
  have gn_Hall_bases : MtT P w K mg base 2 "Hall" "bases" .new Hall_bases_m := wn_Hall_bases T
  have gn_Hall_told : MtT P w K mg base 2 "Hall" "told" .new Hall_told_m := wn_Hall_told T
  exact ⟨f, fd, _, fn_ok (k := 141) (N := N_right_l) (ps := ["hall", "rows", "number"]) (m := right_l_b Hall_stood_m Hall_bases_m rows_like_b_l_m stood_l_m Hall_told_m rows_like_l_m) F sc_right_l (by decide) (fun cdv A outer s H E B hr hB =>
  (sm_cons (sm_newM (i := 3) (ih := 0) sc_right_l.nd (by rfl) (by first | exact Or.inl rfl | exact Or.inr rfl) (takes_of rfl rfl rfl rfl) gn_Hall_stood (hr.mono (by omega)) (by rfl) (pam_per (pm_v 2) pam_nil))
  (sm_cons (sm_newM (i := 4) (ih := 0) sc_right_l.nd (by rfl) (by first | exact Or.inl rfl | exact Or.inr rfl) (takes_of rfl rfl rfl rfl) gn_Hall_bases (hr.mono (by omega)) (by rfl) (pam_per (pm_v 2) pam_nil))
  (sm_cons (sm_if (PW.pt (pq_or (pq_not (pq_val (pm_call g_rows_like_b_l (hr.mono (by omega)) (by rfl) (pam_any (pm_va 3) (pam_any (pm_call g_stood_l (hr.mono (by omega)) (by rfl) (pam_any (pm_va 1) (pam_per (pm_v 2) pam_nil))) pam_nil))))) (pq_or1 (pq_not (pq_val (pm_call g_rows_like_b_l (hr.mono (by omega)) (by rfl) (pam_any (pm_va 4) (pam_any (pm_ix (pm_ix (pm_va 1) (pm_v 2)) pm_int) pam_nil))))))))
  (sm_one (sm_ret pm_bl))
  sm_nil)
  (sm_cons (sm_newM (i := 5) (ih := 0) sc_right_l.nd (by rfl) (by first | exact Or.inl rfl | exact Or.inr rfl) (takes_of rfl rfl rfl rfl) gn_Hall_told (hr.mono (by omega)) (by rfl) (pam_per (pm_v 2) pam_nil))
  (sm_cons (sm_set (i := 6) sc_right_l.nd (by rfl) (by first | exact Or.inl rfl | exact Or.inr rfl) (pm_per (pm_nf (pm_list T.list (by rfl) (pm_pr0 (i := 5) (by rfl))))))
  (sm_cons (sm_app (i := 3) (pe_bm PySem.F.plainAttrs_list PySem.F.slot_list_append PySem.F.type_list_append mt_append (pv 3) (pa_cons pm_int pa_nil)))
  (sm_cons (sm_app (i := 4) (pe_bm PySem.F.plainAttrs_list PySem.F.slot_list_append PySem.F.type_list_append mt_append (pv 4) (pa_cons pm_int pa_nil)))
  (sm_cons (sm_appPr (i := 5) (pe_bm PySem.F.plainAttrs_list PySem.F.slot_list_append PySem.F.type_list_append mt_append (pe_ix ix_seq (pv 5) pe_int (by intro _ _; rfl)) (pa_cons (pm_tup (pam_per pm_str pam_nil)) pa_nil)))
  (sm_cons (sm_setX (i := 7) sc_right_l.nd (by rfl) (by first | exact Or.inl rfl | exact Or.inr rfl) (px_meth (a := .r 0) (i := 0) (.inr rfl) (takes_of rfl rfl rfl rfl) g_Hall_told (hr.mono (by omega)) (by rfl) (xa_cons (px (pm_v 2)) xa_nil)))
  (sm_one (sm_retX (px_and (px (pm_call g_rows_like_l (hr.mono (by omega)) (by rfl) (pam_per (pm_ix (pm_v 7) pm_int) (pam_per (pm_v 6) pam_nil)))) (px_one (px_call (takes_of rfl rfl rfl rfl) g_rows_like_l (hr.mono (by omega)) (by rfl) (xa_cons (px_meth (a := .r 0) (i := 0) (.inr rfl) (takes_of rfl rfl rfl rfl) g_Hall_stood (hr.mono (by omega)) (by rfl) (xa_cons (px (pm_v 2)) xa_nil)) (xa_cons (px (pm_call g_stood_l (hr.mono (by omega)) (by rfl) (pam_any (pm_va 1) (pam_per (pm_v 2) pam_nil)))) xa_nil))))))))))))))))), hm, F.kp, (F.bindsN (ps := ["hall", "rows", "number"]) fun _ _ _ _ _ _ us hl => match us, hl with | [_, _, _], _ => rfl)⟩
theorem sc_Hall_init : FnScope N_Hall_init ["self"] (defScope (inClass (top 24) 0)) := ⟨rfl, rfl, rfl, by decide +kernel, rfl, by decide +kernel, by decide +kernel⟩
theorem w_Hall_init (T : Tx K mg) : MkT P w K mg base 1 "Hall" Hall_init_m := by
  obtain ⟨fd, F⟩ := T.m_Hall_init
  exact ⟨⟨_, fd, _, fn_ok (k := 0) (N := N_Hall_init) (ps := ["self"]) (m := Hall_init_b ) F sc_Hall_init (by decide) (fun cdv A outer s H E B hr hB =>
  (sm_cons (sm_attrL (i := 0) (C := "Hall") T.c_Hall T.na_Hall_seals (by rfl) (pm_lst pam_nil))
  (sm_one (sm_attrL (i := 0) (C := "Hall") T.c_Hall T.na_Hall_ground (by rfl) (pm_lst pam_nil))))), T.k_Hall, (F.bindsN (ps := ["self"]) fun _ _ _ _ _ _ us hl => match us, hl with | [_], _ => rfl)⟩, T.g_Hall⟩
theorem sc_Hall_many : FnScope N_Hall_many ["self"] (defScope (inClass (top 24) 1)) := ⟨rfl, rfl, rfl, by decide +kernel, rfl, by decide +kernel, by decide +kernel⟩
theorem w_Hall_many (T : Tx K mg) : MtT P w K mg base 1 "Hall" "many" .per Hall_many_m := by
  obtain ⟨fd, F⟩ := T.m_Hall_many
  exact ⟨⟨_, fd, _, fn_ok (k := 0) (N := N_Hall_many) (ps := ["self"]) (m := Hall_many_b ) F sc_Hall_many (by decide) (fun cdv A outer s H E B hr hB =>
  (sm_one (sm_ret (pm_len T.len (by rfl) (pm_attrL (i := 0) (C := "Hall") T.c_Hall T.na_Hall_seals (by rfl)))))), T.mt_Hall_many, (F.bindsN (ps := ["self"]) fun _ _ _ _ _ _ us hl => match us, hl with | [_], _ => rfl)⟩, T.c_Hall⟩
theorem sc_Hall_axioms : FnScope N_Hall_axioms ["self"] (defScope (inClass (top 24) 14)) := ⟨rfl, rfl, rfl, by decide +kernel, rfl, by decide +kernel, by decide +kernel⟩
theorem wn_Hall_axioms (T : Tx K mg) : MtT P w K mg base 1 "Hall" "axioms" .new Hall_axioms_m := by
  obtain ⟨fd, F⟩ := T.m_Hall_axioms
  exact ⟨⟨_, fd, _, fn_ok (k := 0) (N := N_Hall_axioms) (ps := ["self"]) (m := Hall_axioms_b ) F sc_Hall_axioms (by decide) (fun cdv A outer s H E B hr hB =>
  (sm_one (sm_retN (pm_list T.list (by rfl) (pm_attrL (i := 0) (C := "Hall") T.c_Hall T.na_Hall_ground (by rfl)))))), T.mt_Hall_axioms, (F.bindsN (ps := ["self"]) fun _ _ _ _ _ _ us hl => match us, hl with | [_], _ => rfl)⟩, T.c_Hall⟩
theorem w_Hall_axioms (T : Tx K mg) : MtT P w K mg base 1 "Hall" "axioms" .per Hall_axioms_m := by
  obtain ⟨fd, F⟩ := T.m_Hall_axioms
  exact ⟨⟨_, fd, _, fn_ok (k := 0) (N := N_Hall_axioms) (ps := ["self"]) (m := Hall_axioms_b ) F sc_Hall_axioms (by decide) (fun cdv A outer s H E B hr hB =>
  (sm_one (sm_ret (pm_per (pm_nf (pm_list T.list (by rfl) (pm_attrL (i := 0) (C := "Hall") T.c_Hall T.na_Hall_ground (by rfl)))))))), T.mt_Hall_axioms, (F.bindsN (ps := ["self"]) fun _ _ _ _ _ _ us hl => match us, hl with | [_], _ => rfl)⟩, T.c_Hall⟩
theorem sc_law_k11 : FnScope N_law_k11 ["script"] (defScope (top 36)) := ⟨rfl, rfl, rfl, by decide +kernel, rfl, by decide +kernel, by decide +kernel⟩
theorem ok_law (T : Tx K mg) {f : Addr} {fd : FuncData} (F : FunD K "law" "law" (defArgs (top 36)) (defBody (top 36)) (defScope (top 36)) [] [] f fd) (hm : mg "law" = some (.ref f)) : FnOk P w K mg base (L2.CX P w) 146 f fd ["script"] (spM K .per law_k11_m) := by
  have g_name_by_l : FnT P w K mg base 2 "_law_name_by" .per name_by_l_m := w_name_by_l T
  have g_cell_at_l : FnT P w K mg base 1 "_law_cell_at" .per cell_at_l_m := w_cell_at_l T
  have g_Hall_init : MkT P w K mg base 1 "Hall" Hall_init_m := w_Hall_init T
  have g_next_l : FnT P w K mg base 1 "_law_next" .per next_l_m := w_next_l T
  have g_no_seal_l : FnT P w K mg base 3 "_law_no_seal" .per no_seal_l_m := w_no_seal_l T
  have g_more_l : FnT P w K mg base 145 "_law_more" .per more_l_m := w_more_l T
  have g_whole_l : FnT P w K mg base 1 "_law_whole" .per whole_l_m := w_whole_l T
  have g_right_l : FnT P w K mg base 142 "_law_right" .per right_l_m := w_right_l T
  have g_Hall_many : MtT P w K mg base 1 "Hall" "many" .per Hall_many_m := w_Hall_many T
  have g_rows_like_b_l : FnT P w K mg base 141 "_law_rows_like" .per rows_like_b_l_m := w_rows_like_b_l T
  have g_Hall_axioms : MtT P w K mg base 1 "Hall" "axioms" .per Hall_axioms_m := w_Hall_axioms T
  have gn_Hall_axioms : MtT P w K mg base 1 "Hall" "axioms" .new Hall_axioms_m := wn_Hall_axioms T
  exact fn_ok (k := 145) (N := N_law_k11) (ps := ["script"]) (m := law_k11_b name_by_l_m cell_at_l_m Hall_init_m next_l_m no_seal_l_m more_l_m whole_l_m right_l_m Hall_many_m rows_like_b_l_m Hall_axioms_m) F sc_law_k11 (by decide) (fun cdv A outer s H E B hr hB =>
  (sm_cons (sm_set (i := 1) sc_law_k11.nd (by rfl) (by first | exact Or.inl rfl | exact Or.inr rfl) (pm_call g_name_by_l (hr.mono (by omega)) (by rfl) (pam_per (pm_call g_cell_at_l (hr.mono (by omega)) (by rfl) (pam_any (pm_va 0) (pam_per pm_int pam_nil))) pam_nil)))
  (sm_cons (sm_mk2 (i := 2) sc_law_k11.nd (by rfl) (by first | exact Or.inl rfl | exact Or.inr rfl) g_Hall_init (hr.mono (by omega)) (by rfl))
  (sm_cons (sm_twoL (i := 3) sc_law_k11.nd (by rfl) (by first | exact Or.inl rfl | exact Or.inr rfl))
  (sm_cons (sm_twoL (i := 4) sc_law_k11.nd (by rfl) (by first | exact Or.inl rfl | exact Or.inr rfl))
  (sm_cons (sm_for (i := 5) (passes_of (by rfl)) (by rfl) (pl_of (pm_sl (pm_va 0) (pom_some pm_int) (pom_some pm_int))) (pg_name (i := 5) sc_law_k11.nd (by rfl) (by first | exact Or.inl rfl | exact Or.inr rfl))
  (sm_cons (sm_set (i := 6) sc_law_k11.nd (by rfl) (by first | exact Or.inl rfl | exact Or.inr rfl) (pm_call g_next_l (hr.mono (by omega)) (by rfl) (pam_per (pm_v 5) pam_nil)))
  (sm_cons (sm_set (i := 7) sc_law_k11.nd (by rfl) (by first | exact Or.inl rfl | exact Or.inr rfl) (pm_op op_mod r2_mod (pm_v 6) pm_int))
  (sm_cons (sm_set (i := 8) sc_law_k11.nd (by rfl) (by first | exact Or.inl rfl | exact Or.inr rfl) (pm_len T.len (by rfl) (pm_at2 (i := 3) (by rfl) (pm_v 7))))
  (sm_cons (sm_ifX (PW.pt (pxt_or (pxt_not (pxt_val (px_callP (i0 := 2) (i1 := 3) (i2 := 4) (by decide) (by decide) (by decide) (takes_of rfl rfl rfl rfl) g_no_seal_l (hr.mono (by omega)) (by rfl) (ppa_r (s := 0) (i := 2) (by rfl) (by rfl) (pm_v 7) (ppa_d (pm_v 8) ppa_nil))))) (pxt_or1 (pxt_not (pxt_val (px_callP (i0 := 2) (i1 := 3) (i2 := 4) (by decide) (by decide) (by decide) (takes_of rfl rfl rfl rfl) g_no_seal_l (hr.mono (by omega)) (by rfl) (ppa_r (s := 0) (i := 2) (by rfl) (by rfl) (pm_v 7) (ppa_d (pm_op op_sub r2_sub (pm_neg pm_int) (pm_op op_mod r2_mod (pm_op op_fdiv r2_div (pm_v 6) pm_int) pm_int)) ppa_nil))))))))
  (sm_one (sm_ret pm_bl))
  sm_nil)
  (sm_cons (sm_setX (i := 9) sc_law_k11.nd (by rfl) (by first | exact Or.inl rfl | exact Or.inr rfl) (px_callP (i0 := 2) (i1 := 3) (i2 := 4) (by decide) (by decide) (by decide) (takes_of rfl rfl rfl rfl) g_more_l (hr.mono (by omega)) (by rfl) (ppa_o (s := 0) (i := 2) (by rfl) (by rfl) (pm_v 7) (ppa_o (s := 1) (i := 3) (by rfl) (by rfl) (pm_v 7) (ppa_o (s := 2) (i := 4) (by rfl) (by rfl) (pm_v 7) (ppa_d (pm_op op_fdiv r2_div (pm_v 6) pm_int) (ppa_d (pm_v 1) ppa_nil)))))))
  (sm_cons (sm_if (pq_not (pq_val (pm_call g_whole_l (hr.mono (by omega)) (by rfl) (pam_per (pm_v 9) (pam_per (pm_op op_sub r2_sub (pm_len T.len (by rfl) (pm_at2 (i := 3) (by rfl) (pm_v 7))) pm_int) pam_nil)))))
  (sm_one (sm_ret pm_bl))
  sm_nil)
  (sm_one (sm_forR1 (i := 10) (passes_of (by rfl)) (by rfl) (by rfl) T.range pm_int (pg_name (i := 10) sc_law_k11.nd (by rfl) (by first | exact Or.inl rfl | exact Or.inr rfl))
  (sm_cons (sm_set (i := 11) sc_law_k11.nd (by rfl) (by first | exact Or.inl rfl | exact Or.inr rfl) (pm_op op_mod r2_mod (pm_op op_fdiv r2_div (pm_v 6) pm_int) (pm_max (by rfl) T.max (by rfl) pm_int (pm_len T.len (by rfl) (pm_at2 (i := 3) (by rfl) (pm_v 10))))))
  (sm_cons (sm_ifX (PW.pt (pxt_and (pxt (pq_cmp op_gt r2_gt (pm_len T.len (by rfl) (pm_at2 (i := 3) (by rfl) (pm_v 10))) pm_int (nomark _))) (pxt_and1 (pxt_not (pxt_val (px_callP (i0 := 2) (i1 := 3) (i2 := 4) (by decide) (by decide) (by decide) (takes_of rfl rfl rfl rfl) g_right_l (hr.mono (by omega)) (by rfl) (ppa_r (s := 0) (i := 2) (by rfl) (by rfl) (pm_v 10) (ppa_b (s := 1) (i := 3) (by rfl) (by rfl) (pm_v 10) (ppa_d (pm_v 11) ppa_nil)))))))))
  (sm_one (sm_ret pm_bl))
  sm_nil)
  (sm_cons (sm_if (pq_not (pq_val (pm_call g_whole_l (hr.mono (by omega)) (by rfl) (pam_per (pm_meth2 (i := 2) g_Hall_many (hr.mono (by omega)) (by rfl) (pm_v 10)) (pam_per (pm_len T.len (by rfl) (pm_at2 (i := 3) (by rfl) (pm_v 10))) pam_nil)))))
  (sm_one (sm_ret pm_bl))
  sm_nil)
  (sm_cons (sm_if (pq_not (pq_val (pm_call g_rows_like_b_l (hr.mono (by omega)) (by rfl) (pam_any (pm_meth2 (i := 2) g_Hall_axioms (hr.mono (by omega)) (by rfl) (pm_v 10)) (pam_any (pm_at2 (i := 4) (by rfl) (pm_v 10)) pam_nil)))))
  (sm_one (sm_ret pm_bl))
  sm_nil)
  (sm_one (sm_appNew (pe_bm PySem.F.plainAttrs_list PySem.F.slot_list_append PySem.F.type_list_append mt_append (pm_meth2N (i := 2) gn_Hall_axioms (hr.mono (by omega)) (by rfl) (pm_v 10)) (pa_cons (pm_tup (pam_per pm_str pam_nil)) pa_nil)))))))))))))))))
  (sm_one (sm_ret pm_bl))))))))
end
end Lw

set_option maxHeartbeats 0
namespace Lw
open PySem PySem.Spec PyProof.Rows L2 PL
abbrev R : PySem.W.OpenRow := PySem.W.OpenLaw.row PySem.Challenge.rw_surehall_k11_kept
abbrev hk : PySem.W.Hook := PL.hookX 5 (errB ["NoSeal", "Unfit", "TooLarge", "NoThing", "NoWord"] ["HallError", "NoSeal", "Unfit", "TooLarge", "NoThing", "NoWord"]) fa fn
def ob (s : PySem.W.SharedT) : He.AlD := PL.obsXG 5 (errB ["NoSeal", "Unfit", "TooLarge", "NoThing", "NoWord"] ["HallError", "NoSeal", "Unfit", "TooLarge", "NoThing", "NoWord"]) fa fn (HandSHeadRun.getT s)
theorem ob_eq (s : PySem.W.SharedT) : ob s = hk.obs s.abs := PL.obsXG_eq (HandSHeadRun.getT_eq s)
def loose : List Str := ((["_wall",
  "HallError",
  "NoSeal",
  "Unfit",
  "TooLarge",
  "NoThing",
  "NoWord",
  "parts_of",
  "with_parts",
  "inward",
  "knots",
  "layers",
  "nested",
  "fair",
  "raised",
  "put_within",
  "put",
  "all_bound",
  "without",
  "joined",
  "together",
  "Hall",
  "_law_cell_at",
  "_law_next",
  "_law_name_by",
  "_law_like",
  "_law_rows_like",
  "_law_whole",
  "_law_stood",
  "_law_no_seal"] : List Str) ++ (["_law_more",
  "_law_right"] : List Str))
theorem run (w : World) : HandSHeadRun.RunEq R (PySem.W.view R.prog [36]) hk ob 6000 loose w := by
  intro os
  kernel_rfl
end Lw
open PySem PySem.W PySem.Calls PyProof.Rows
theorem PySem.Challenge.cw_surehall_k11_kept_holds : PySem.Challenge.rw_surehall_k11_kept.Holds := by
  w_on; o_law
  refine HandSHeadRun.head_any (r := OpenLaw.row PySem.Challenge.rw_surehall_k11_kept) (q := view (OpenLaw.row PySem.Challenge.rw_surehall_k11_kept).prog [36]) (H := Lw.hk) (ob := Lw.ob) (M := 6000) (loose := Lw.loose) (d := HandSHeadRun.topDef (OpenLaw.row PySem.Challenge.rw_surehall_k11_kept).prog 36) (kwd := []) Lw.ob_eq
    (by kernel_rfl) (fun s => by kernel_rfl) Lw.run (by kernel_rfl) (by kernel_rfl) (by kernel_rfl) (by rfl) (by first | assumption | decide +kernel) (by decide +kernel) ⟨rfl, rfl, rfl, rfl, rfl, by decide +kernel⟩ ?hw ?hc
  case hw => w_witness2
  case hc =>
    refine PL.walk_law (l := PySem.Challenge.rw_surehall_k11_kept) (n := 63) (k := 146) (x := "script") (fm := PL.law_k11_m) rfl (by decide) (by kernel_rfl) ⟨rfl, by decide, by decide⟩ ?F PL.law_k11_true
    intro w mg fa h Y G hmg0
    obtain ⟨K, KX, c⟩ := Y
    have hmg : mg ("law" : PySem.Str) = some (.ref fa) := by
      have e : (HandSHeadRun.topDef (OpenLaw.row PySem.Challenge.rw_surehall_k11_kept).prog 36).name = ("law" : PySem.Str) := by kernel_rfl
      rw [← e]
      exact hmg0
    obtain ⟨ferr, c⟩ := c.d
    have T := Lw.Tx_of KX G c ferr
    obtain ⟨f, fd, F, hf⟩ := T.d_law_k11
    rw [hmg] at hf
    cases hf
    exact ⟨K, fd, KX, fun s v => F.bindsA (ps := ["script"]) (fun _ _ _ _ _ _ us hl => match us, hl with | [_], _ => rfl) s [v] rfl, fun base _ _ => Lw.ok_law (P := (PySem.Challenge.rw_surehall_k11_kept).prog) (w := w) (base := base) T F hmg⟩

