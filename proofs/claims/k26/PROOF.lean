import PyProof.Rows.All
import Wide.All
import OpenK.AllK
import Wide.FinOn
import HandS.Base
import HandS.Call
import HandS.List
import HandS.Comp
import HandS.Iter
import HandS.Words
import HandS.Exc
import HandS.ExcOwn
import HandS.TryOnly
import HandS.TupAny
import HandS.IsInst
import HandS.Ends
import HandS.EndBits
import HandS.Rev
import HandS.Zip
import HandS.SortInts
import HandS.NoneIn
import HandS.Dict
import HandS.Conv
import KE.DataEq
import KE.SortData
import KE.KTupSum
import KE.DataMinMax
import HandS.SortKw
import PyProof.LongRange
import KE.GoesEnum
import KE.KDictZip
import PyProof.ZipIter
import HandS.OwnIter
import HandS.SetFor
import HandS.Strs
import HandS.RevTup
import HandS.ExcIs
import PySem.Challenge.RW_offerhouse_k26_at_least_so_much
set_option Elab.async false
set_option linter.all false
set_option maxRecDepth 100000
namespace Den
open PySem PySem.Spec PyProof.Rows L2

/-! ### data -/
inductive D where
  | non | bl (b : Bool) | int (i : Int) | str (s : Str)
  | tup (xs : List D) | lst (xs : List D)
  /-- a dict of whole numbers and texts (f: locked, it may be walked); one of tuples of these -/
  | dct (f : Bool) (ks : List Key) (vs : List D)
  | dcT (ks : List (List Key)) (vs : List D)
  deriving Inhabited

mutual
inductive Rp (K : PySem.W.Frag) (G : Hp) : V → D → Prop
  | non : Rp K G .non .non
  | bl (b : Bool) : Rp K G (.bl b) (.bl b)
  | int (i : Int) : Rp K G (.int i) (.int i)
  | str (x : Str) : Rp K G (.str x) (.str x)
  | lst {a : Addr} {xs : List V} {ds : List D} : SqL K G a xs → RpL K G xs ds → Rp K G (.ref a) (.lst ds)
  | tup {a : Addr} {xs : List V} {ds : List D} : SqT K G a xs → RpL K G xs ds → Rp K G (.ref a) (.tup ds)
  | dct {a : Addr} {kvs : List (Key × V)} {ds : List D} : G a = some (.dK kvs) → RpL K G (kvs.map (·.2)) ds → Rp K G (.ref a) (.dct false (kvs.map (·.1)) ds)
  | dctL {a : Addr} {o : Obj} {kvs : List (Key × V)} {ds : List D} : G a = some (.frz o (.dK kvs)) → RpL K G (kvs.map (·.2)) ds → Rp K G (.ref a) (.dct true (kvs.map (·.1)) ds)
  | dcT {a : Addr} {kvs : List (List Key × V)} {ds : List D} : G a = some (.dT kvs) → RpL K G (kvs.map (·.2)) ds → Rp K G (.ref a) (.dcT (kvs.map (·.1)) ds)
inductive RpL (K : PySem.W.Frag) (G : Hp) : List V → List D → Prop
  | nil : RpL K G [] []
  | cons {v : V} {vs : List V} {d : D} {ds : List D} : Rp K G v d → RpL K G vs ds → RpL K G (v :: vs) (d :: ds)
end

section
variable {K : PySem.W.Frag} {G G' H H' : Hp}
theorem rdS (e : Same H H') {a : Addr} {o : HO} (h : Rd H a o) : Rd H' a o := by
  rcases h with h | ⟨o, h⟩
  · exact .inl (e _ _ h)
  · exact .inr ⟨o, e _ _ h⟩
theorem seqT (e : Same H H') {a : Addr} {xs : List V} (h : SqT K H a xs) : SqT K H' a xs := by
  rcases h with (h | ⟨o, h⟩) | h
  · exact .inl (.inl (e _ _ h))
  · exact .inl (.inr ⟨o, e _ _ h⟩)
  · exact .inr h
mutual
theorem Rp.mono (e : Same G G') : ∀ {v : V} {d : D}, Rp K G v d → Rp K G' v d
  | _, _, .non => .non
  | _, _, .bl b => .bl b
  | _, _, .int i => .int i
  | _, _, .str x => .str x
  | _, _, .lst h l => .lst (e.seq h) (RpL.mono e l)
  | _, _, .tup h l => .tup (seqT e h) (RpL.mono e l)
  | _, _, .dct h l => .dct (e _ _ h) (RpL.mono e l)
  | _, _, .dctL h l => .dctL (e _ _ h) (RpL.mono e l)
  | _, _, .dcT h l => .dcT (e _ _ h) (RpL.mono e l)
theorem RpL.mono (e : Same G G') : ∀ {v : List V} {d : List D}, RpL K G v d → RpL K G' v d
  | _, _, .nil => .nil
  | _, _, .cons h l => .cons (Rp.mono e h) (RpL.mono e l)
end
theorem RpL.len : ∀ {vs : List V} {ds : List D}, RpL K G vs ds → vs.length = ds.length
  | _, _, .nil => rfl
  | _, _, .cons _ l => by rw [List.length_cons, List.length_cons, l.len]
theorem RpL.get : ∀ {vs : List V} {ds : List D} {i : Nat} {d : D}, RpL K G vs ds → ds[i]? = some d → ∃ v, vs[i]? = some v ∧ Rp K G v d
  | _, _, _, _, .nil, e => by simp at e
  | _, _, 0, _, .cons r _, e => by simp at e; subst e; exact ⟨_, rfl, r⟩
  | _, _, i + 1, d, .cons _ t, e => by
    obtain ⟨u, h1, h2⟩ := RpL.get (i := i) (d := d) t (by simpa using e)
    exact ⟨u, by simpa using h1, h2⟩
theorem RpL.getV : ∀ {vs : List V} {ds : List D} {i : Nat} {v : V}, RpL K G vs ds → vs[i]? = some v → ∃ d, ds[i]? = some d ∧ Rp K G v d
  | _, _, _, _, .nil, e => by simp at e
  | _, _, 0, _, .cons r _, e => by simp at e; subst e; exact ⟨_, rfl, r⟩
  | _, _, i + 1, d, .cons _ t, e => by
    obtain ⟨u, h1, h2⟩ := RpL.getV (i := i) (v := d) t (by simpa using e)
    exact ⟨u, by simpa using h1, h2⟩
theorem RpL.append : ∀ {vs ws : List V} {ds es : List D}, RpL K G vs ds → RpL K G ws es → RpL K G (vs ++ ws) (ds ++ es)
  | _, _, _, _, .nil, s => s
  | _, _, _, _, .cons r t, s => .cons r (RpL.append t s)
theorem RpL.take : ∀ {vs : List V} {ds : List D} (n : Nat), RpL K G vs ds → RpL K G (vs.take n) (ds.take n)
  | _, _, 0, _ => .nil
  | _, _, _ + 1, .nil => .nil
  | _, _, n + 1, .cons r t => .cons r (RpL.take n t)
theorem RpL.drop : ∀ {vs : List V} {ds : List D} (n : Nat), RpL K G vs ds → RpL K G (vs.drop n) (ds.drop n)
  | _, _, 0, r => r
  | _, _, _ + 1, .nil => .nil
  | _, _, n + 1, .cons _ t => RpL.drop n t
theorem RpL.set {v : V} {d : D} (r : Rp K G v d) : ∀ {vs : List V} {ds : List D} (i : Nat), RpL K G vs ds → RpL K G (vs.set i v) (ds.set i d)
  | _, _, _, .nil => .nil
  | _, _, 0, .cons _ t => .cons r t
  | _, _, i + 1, .cons q t => .cons q (RpL.set r i t)
theorem RpL.reverse : ∀ {vs : List V} {ds : List D}, RpL K G vs ds → RpL K G vs.reverse ds.reverse
  | _, _, .nil => .nil
  | _, _, .cons r t => by
    rw [List.reverse_cons, List.reverse_cons]
    exact (RpL.reverse t).append (.cons r .nil)
theorem RpL.dropLast {vs : List V} {ds : List D} (h : RpL K G vs ds) : RpL K G vs.dropLast ds.dropLast := by
  rw [List.dropLast_eq_take, List.dropLast_eq_take, h.len]
  exact h.take _
theorem RpL.ints : ∀ {vs : List V} {is : List Int}, RpL K G vs (is.map D.int) → vs = is.map V.int
  | _, [], .nil => rfl
  | _, _ :: _, .cons r t => by
    cases r
    rw [List.map_cons, ← RpL.ints t]
theorem RpL.bls : ∀ {vs : List V} {is : List Bool}, RpL K G vs (is.map D.bl) → vs = is.map V.bl
  | _, [], .nil => rfl
  | _, _ :: _, .cons r t => by
    cases r
    rw [List.map_cons, ← RpL.bls t]
theorem RpL.ofInts : ∀ (is : List Int), RpL K G (is.map V.int) (is.map D.int)
  | [] => .nil
  | i :: is => .cons (.int i) (RpL.ofInts is)
end

/-- what an own object holds -/
inductive RpO (K : PySem.W.Frag) (G : Hp) : HO → D → Prop
  | lst {xs : List V} {ds : List D} : RpL K G xs ds → RpO K G (.lst xs) (.lst ds)
  | dct {kvs : List (Key × V)} {ds : List D} : RpL K G (kvs.map (·.2)) ds → RpO K G (.dK kvs) (.dct false (kvs.map (·.1)) ds)
  | dcT {kvs : List (List Key × V)} {ds : List D} : RpL K G (kvs.map (·.2)) ds → RpO K G (.dT kvs) (.dcT (kvs.map (·.1)) ds)
section
variable {K : PySem.W.Frag} {G G' G1 G2 H H' H1 H2 : Hp}
theorem RpO.mono (e : Same G G') {o : HO} {d : D} (h : RpO K G o d) : RpO K G' o d := by
  cases h with
  | lst l => exact .lst (l.mono e)
  | dct l => exact .dct (l.mono e)
  | dcT l => exact .dcT (l.mono e)
theorem same_upd {a : Addr} {o : HO} (h : G a = none) : Same G (upd G a o) := fun b x e => by
  rw [upd_ne (ne_of_none e h)]
  exact e
theorem RpO.rp {a : Addr} {o : HO} {d : D} (h : RpO K G o d) (e : G a = some o) : Rp K G (.ref a) d := by
  cases h with
  | lst l => exact .lst (SqL.of e) l
  | dct l => exact .dct e l
  | dcT l => exact .dcT e l
theorem RpO.freeze {a : Addr} {o : HO} {d : D} (h : RpO K G o d) (hn : G a = none) : Rp K (upd G a o) (.ref a) d :=
  (h.mono (same_upd hn)).rp upd_same
/-- a value that may be read: shared, or an own object -/
def PB (K : PySem.W.Frag) (G H : Hp) (v : V) (d : D) : Prop := Rp K G v d ∨ ∃ a o, v = .ref a ∧ H a = some o ∧ G a = none ∧ RpO K G o d

/-- what may be own -/
def Owb : HO → Prop
  | .lst _ => True
  | .dK _ => True
  | .dT _ => True
  | _ => False
theorem RpO.owb {o : HO} {d : D} (h : RpO K G o d) : Owb o := by
  cases h <;> trivial
/-- the shared heap within the heap: only lists and dicts are own -/
structure Ok2 (G H : Hp) : Prop where
  s : Same G H
  z : ∀ a o, H a = some o → G a = none → Owb o
structure Stp (G H G' H' : Hp) : Prop where
  h : Same H H'
  g : Same G G'
  o : Ok2 G' H'
  k : ∀ a o, H a = some o → G a = none → G' a = none
theorem Stp.s {G H G' H' : Hp} (t : Stp G H G' H') : Same G' H' := t.o.s
theorem Stp.refl (s : Ok2 G H) : Stp G H G H := ⟨Same.refl _, Same.refl _, s, fun _ _ _ n => n⟩
theorem Stp.trans (a : Stp G H G1 H1) (b : Stp G1 H1 G2 H2) : Stp G H G2 H2 :=
  ⟨a.h.trans b.h, a.g.trans b.g, b.o, fun x o e n => b.k x o (a.h _ _ e) (a.k x o e n)⟩
/-- a new object that is shared -/
theorem Stp.newS {a : Addr} {o : HO} (s : Ok2 G H) (hn : H a = none) : Stp G H (upd G a o) (upd H a o) := by
  have hg : G a = none := s.s.free hn
  refine ⟨same_upd hn, same_upd hg, ⟨fun b x e => ?_, fun b x e n => ?_⟩, fun b x e n => ?_⟩
  · by_cases hb : b = a
    · subst hb; rw [upd_same] at e ⊢; exact e
    · rw [upd_ne hb] at e ⊢; exact s.s _ _ e
  · by_cases hb : b = a
    · subst hb; rw [upd_same] at n; cases n
    · rw [upd_ne hb] at e n; exact s.z _ _ e n
  · rw [upd_ne (ne_of_none e hn)]; exact n
/-- a new object that is own -/
theorem Stp.newO {a : Addr} {o : HO} (s : Ok2 G H) (hn : H a = none) (w : Owb o) : Stp G H G (upd H a o) := by
  refine ⟨same_upd hn, Same.refl _, ⟨s.s.trans (same_upd hn), fun b x e n => ?_⟩, fun _ _ _ n => n⟩
  by_cases hb : b = a
  · subst hb; rw [upd_same] at e; cases e; exact w
  · rw [upd_ne hb] at e; exact s.z _ _ e n
theorem Stp.freeze {a : Addr} {o : HO} (t : Stp G H G1 H1) (hn : H a = none) (hg : G1 a = none) (ho : H1 a = some o) : Stp G H (upd G1 a o) H1 := by
  refine ⟨t.h, t.g.trans (same_upd hg), ⟨fun b x e => ?_, fun b x e n => ?_⟩, fun b x e n => ?_⟩
  · by_cases hb : b = a
    · subst hb; rw [upd_same] at e; cases e; exact ho
    · rw [upd_ne hb] at e; exact t.s _ _ e
  · by_cases hb : b = a
    · subst hb; rw [upd_same] at n; cases n
    · rw [upd_ne hb] at n; exact t.o.z _ _ e n
  · rw [upd_ne (ne_of_none e hn)]; exact t.k _ _ e n
theorem PB.step {v : V} {d : D} (t : Stp G H G1 H1) (h : PB K G H v d) : PB K G1 H1 v d := by
  rcases h with h | ⟨a, o, e, ho, hg, r⟩
  · exact .inl (h.mono t.g)
  · exact .inr ⟨a, o, e, t.h _ _ ho, t.k _ _ ho hg, r.mono t.g⟩
/-- what a value reads as, at the heap -/
theorem PB.rd {v : V} {d : D} (s : Same G H) (h : PB K G H v d) : Rp K H v d := by
  rcases h with h | ⟨a, o, rfl, ho, hg, r⟩
  · exact h.mono s
  · exact (r.mono s).rp ho

/-- the frame: own slots hold objects of their own, the others what is shared -/
structure FI (K : PySem.W.Frag) (own : Nat → Bool) (G : Hp) (ρ : List (Option D)) (σ : L2.St) (H : Hp) : Prop where
  ok : Ok2 G H
  len : ρ.length = σ.length
  sh : ∀ i d, own i = false → ρ[i]? = some (some d) → ∃ v, σ[i]? = some (some v) ∧ Rp K G v d
  ow : ∀ i d, own i = true → ρ[i]? = some (some d) → ∃ a o, σ[i]? = some (some (.ref a)) ∧ H a = some o ∧ G a = none ∧ RpO K G o d
  ap : ∀ i j a d e, own i = true → own j = true → ρ[i]? = some (some d) → ρ[j]? = some (some e) → σ[i]? = some (some (.ref a)) → σ[j]? = some (some (.ref a)) → i = j
variable {own : Nat → Bool} {ρ : List (Option D)} {σ : L2.St}
theorem FI.sub (F : FI K own G ρ σ H) : Same G H := F.ok.s
theorem FI.step (F : FI K own G ρ σ H) (t : Stp G H G1 H1) : FI K own G1 ρ σ H1 where
  ok := t.o
  len := F.len
  sh := fun i d h e => by
    obtain ⟨v, e1, r⟩ := F.sh i d h e
    exact ⟨v, e1, r.mono t.g⟩
  ow := fun i d h e => by
    obtain ⟨a, o, e1, ho, hg, r⟩ := F.ow i d h e
    exact ⟨a, o, e1, t.h _ _ ho, t.k _ _ ho hg, r.mono t.g⟩
  ap := F.ap
theorem FI.var (F : FI K own G ρ σ H) {i : Nat} {d : D} (e : ρ[i]? = some (some d)) : ∃ v, σ[i]? = some (some v) ∧ PB K G H v d := by
  cases h : own i with
  | true =>
    obtain ⟨a, o, e1, ho, hg, r⟩ := F.ow i d h e
    exact ⟨_, e1, .inr ⟨a, o, rfl, ho, hg, r⟩⟩
  | false =>
    obtain ⟨v, e1, r⟩ := F.sh i d h e
    exact ⟨v, e1, .inl r⟩
end

/-! ### judgements are closed under unions -/
section
variable {X : Cx}
theorem pe_ex {e : Expr} {t : TE} (h : ∀ σ H Q, t σ H Q → ∃ u, PE X e u ∧ u σ H Q) : PE X e t :=
  ⟨fun pins s σ H Q I q => let ⟨_, p, q'⟩ := h σ H Q q; p.run pins s σ H Q I q'⟩
theorem pt_ex {e : Expr} {t : TT} (h : ∀ σ H Q, t σ H Q → ∃ u, PT X e u ∧ u σ H Q) : PT X e t :=
  ⟨fun pins s σ H Q I q => let ⟨_, p, q'⟩ := h σ H Q q; p.run pins s σ H Q I q'⟩
theorem pa_ex {e : List Expr} {t : TA} (h : ∀ σ H Q, t σ H Q → ∃ u, PA X e u ∧ u σ H Q) : PA X e t :=
  ⟨fun pos pins s σ H Q I q => let ⟨_, p, q'⟩ := h σ H Q q; p.run pos pins s σ H Q I q'⟩
theorem ps_ex {e : Stmt} {t : TS} (h : ∀ σ H D, t D σ H → ∃ u, PS X e u ∧ u D σ H) : PS X e t :=
  ⟨fun pins s σ H Q I q => let ⟨_, p, q'⟩ := h σ H Q q; p.run pins s σ H Q I q'⟩
theorem pss_ex {e : List Stmt} {t : TS} (h : ∀ σ H D, t D σ H → ∃ u, PSs X e u ∧ u D σ H) : PSs X e t :=
  ⟨fun pins s σ H Q I q => let ⟨_, p, q'⟩ := h σ H Q q; p.run pins s σ H Q I q'⟩
theorem pi_ex {tg e : Expr} {t : TI} (h : ∀ σ H R, t σ H R → ∃ u, PI X tg e u ∧ u σ H R) : PI X tg e t :=
  ⟨fun pins s σ H Q I q => let ⟨_, p, q'⟩ := h σ H Q q; p.run pins s σ H Q I q'⟩
end
end Den
namespace Den
open PySem PySem.Spec PyProof.Rows L2

/-! ### results -/
inductive R (α : Type) where
  | ok (a : α)
  | exc (c : Nat)
  | bad
namespace R
def bind {α β : Type} (r : R α) (f : α → R β) : R β := match r with
  | ok a => f a
  | exc c => exc c
  | bad => bad
/-- an exception is not to be -/
def nox {α : Type} (r : R α) : R α := match r with
  | ok a => ok a
  | exc _ => bad
  | bad => bad
@[simp] theorem bind_ok {α β : Type} (a : α) (f : α → R β) : (ok a).bind f = f a := rfl
@[simp] theorem bind_exc {α β : Type} (c : Nat) (f : α → R β) : (exc c).bind f = exc c := rfl
@[simp] theorem bind_bad {α β : Type} (f : α → R β) : (bad : R α).bind f = bad := rfl
@[simp] theorem nox_ok {α : Type} (a : α) : (ok a).nox = ok a := rfl
def guard {α : Type} (b : Bool) (r : R α) : R α := if b then r else bad
@[simp] theorem guard_true {α : Type} (r : R α) : guard true r = r := rfl
end R

/-! ### data as the model's data -/
mutual
def D.py : D → PyData
  | .non => .none | .bl b => .bool b | .int i => .int i | .str s => .str s
  | .tup xs => .tuple (D.pyL xs) | .lst xs => .list (D.pyL xs)
  | .dct _ _ _ => .dict [] | .dcT _ _ => .dict []
def D.pyL : List D → List PyData
  | [] => []
  | x :: xs => x.py :: D.pyL xs
end
mutual
/-- no list and no dict within -/
def D.flat : D → Bool
  | .non => true | .bl _ => true | .int _ => true | .str _ => true
  | .tup xs => D.flatL xs | .lst _ => false | .dct _ _ _ => false | .dcT _ _ => false
def D.flatL : List D → Bool
  | [] => true
  | x :: xs => x.flat && D.flatL xs
end
abbrev Line : Nat := 16777216

/-! ### operators -/
inductive Bop where | add | sub | mul | fdiv | mod | pow
inductive Cop where | lt | le | gt | ge | eq | ne | in_ | notin | is_ | isnot
inductive Bi where | len | min2 | max2 | sum | min1 | max1 | all | any | list | tuple | sorted | int_ | str_
inductive Ty where | int | bool | str | tuple | list

def mulOk (i j : Int) : Bool := decide (i.natAbs.log2 + j.natAbs.log2 < 100000000)
def divOk (j : Int) : Bool := decide (j ≠ 0) && decide (j.natAbs.log2 < 9000)
def powOk (i j : Int) : Bool := decide (0 ≤ j) && decide (j ≤ 1000000) && decide (i.natAbs < 2 ^ 64)
def binD : Bop → D → D → R D
  | .add, .int i, .int j => .ok (.int (i + j))
  | .add, .str x, .str y => .guard (decide (x.length + y.length ≤ Line)) (.ok (.str (x ++ y)))
  | .add, .tup x, .tup y => .guard (decide (x.length + y.length ≤ Line)) (.ok (.tup (x ++ y)))
  | .add, .lst x, .lst y => .guard (decide (x.length + y.length ≤ Line)) (.ok (.lst (x ++ y)))
  | .sub, .int i, .int j => .ok (.int (i - j))
  | .mul, .int i, .int j => .guard (mulOk i j) (.ok (.int (i * j)))
  | .fdiv, .int i, .int j => .guard (divOk j) (.ok (.int (i.fdiv j)))
  | .mod, .int i, .int j => .guard (decide (j ≠ 0)) (.ok (.int (i.fmod j)))
  | .pow, .int i, .int j => .guard (powOk i j) (.ok (.int (i ^ j.toNat)))
  | _, _, _ => .bad
def eqOk (x y : D) : Bool := x.py.plain && y.py.plain && decide (min x.py.depth y.py.depth ≤ 60)
def eqD (x y : D) : R Bool := .guard (eqOk x y) (.ok (PyData.eqv x.py y.py))
def inOk (x : D) (ys : List D) : Bool := x.py.plain && PyData.plainAll (D.pyL ys) && decide (x.py.depth ≤ 60)
/-! ### dicts: keys and values side by side -/
def kD : Key → D
  | .inl i => .int i
  | .inr s => .str s
def keyD : D → Option Key
  | .int i => some (.inl i)
  | .str s => some (.inr s)
  | _ => none
def keysD : List D → Option (List Key)
  | [] => some []
  | d :: r => (keyD d).bind fun k => (keysD r).map (k :: ·)
/-- what stands at a key -/
def lkD {κ : Type} [DecidableEq κ] : List κ → List D → κ → Option D
  | k :: ks, v :: vs, j => if k = j then some v else lkD ks vs j
  | _, _, _ => none
/-- the keys, the values behind a store -/
def puK {κ : Type} [DecidableEq κ] (ks : List κ) (k : κ) : List κ := if k ∈ ks then ks else ks ++ [k]
def puR {κ : Type} [DecidableEq κ] (k : κ) (z : D) : List κ → List D → List D
  | j :: ks, v :: vs => (if j = k then z else v) :: puR k z ks vs
  | _, _ => []
def puV {κ : Type} [DecidableEq κ] (ks : List κ) (vs : List D) (k : κ) (z : D) : List D := if k ∈ ks then puR k z ks vs else vs ++ [z]
def inD : D → D → R Bool
  | x, .lst ys => .guard (inOk x ys) (.ok ((D.pyL ys).any fun y => PyData.eqv y x.py))
  | x, .tup ys => .guard (inOk x ys) (.ok ((D.pyL ys).any fun y => PyData.eqv y x.py))
  | x, .dct _ ks vs => match keyD x with | some k => .ok (lkD ks vs k).isSome | none => .bad
  | _, _ => .bad
def cmpD : Cop → D → D → R D
  | .lt, .int i, .int j => .ok (.bl (decide (i < j)))
  | .le, .int i, .int j => .ok (.bl (decide (i ≤ j)))
  | .gt, .int i, .int j => .ok (.bl (decide (j < i)))
  | .ge, .int i, .int j => .ok (.bl (decide (j ≤ i)))
  | .eq, x, y => (eqD x y).bind fun b => .ok (.bl b)
  | .ne, x, y => (eqD x y).bind fun b => .ok (.bl (!b))
  | .in_, x, y => (inD x y).bind fun b => .ok (.bl b)
  | .notin, x, y => (inD x y).bind fun b => .ok (.bl (!b))
  | .is_, .bl i, .bl j => .ok (.bl (i == j))
  | .isnot, .bl i, .bl j => .ok (.bl (!(i == j)))
  | _, _, _ => .bad
def isNon : D → Bool
  | .non => true
  | _ => false
def ixD : D → D → R D
  | .lst xs, .int i => match atI xs i with | some d => .ok d | none => .bad
  | .tup xs, .int i => match atI xs i with | some d => .ok d | none => .bad
  | .str z, .int i => .guard (decide (z.length ≤ Line)) (match atI z.cps.toList i with | some c => .ok (.str ⟨#[c]⟩) | none => .bad)
  | .dct _ ks vs, y => match (keyD y).bind (lkD ks vs) with | some d => .ok d | none => .bad
  | _, _ => .bad
/-- d.get(k, z) -/
def dgD : D → D → D → R D
  | .dct _ ks vs, y, z => match keyD y with | some k => .ok ((lkD ks vs k).getD z) | none => .bad
  | _, _, _ => .bad
def asDct : D → R D
  | .dct f ks vs => .ok (.dct f ks vs)
  | _ => .bad
def dlD (x y : D) : R D := match keyD x with
  | some k => .ok (.dct true [k] [y])
  | none => .bad
def pairL : List Key → List D → List D
  | k :: ks, v :: vs => .tup [kD k, v] :: pairL ks vs
  | _, _ => []
def itemsD : D → R (List D)
  | .dct true ks vs => .ok (pairL ks vs)
  | _ => .bad
def cutL {α : Type} (xs : List α) (lo hi : Option Int) : List α := (xs.drop (HT.sIx xs.length 0 lo)).take (HT.sIx xs.length xs.length hi - HT.sIx xs.length 0 lo)
def slD : D → Option Int → Option Int → R D
  | .lst xs, lo, hi => .ok (.lst (cutL xs lo hi))
  | .tup xs, lo, hi => .ok (.tup (cutL xs lo hi))
  | _, _, _ => .bad
def asInt : D → R Int
  | .int i => .ok i
  | _ => .bad
def asBool : D → R Bool
  | .bl b => .ok b
  | _ => .bad
def dInts : List D → Option (List Int)
  | [] => some []
  | .int i :: r => (dInts r).map (i :: ·)
  | _ :: _ => none
def dBls : List D → Option (List Bool)
  | [] => some []
  | .bl i :: r => (dBls r).map (i :: ·)
  | _ :: _ => none
def insI (i : Int) : List Int → List Int
  | [] => [i]
  | j :: r => if i ≤ j then i :: j :: r else j :: insI i r
def sortI : List Int → List Int
  | [] => []
  | i :: r => insI i (sortI r)
def insU (i : Int) : List Int → List Int
  | [] => [i]
  | j :: r => if i < j then i :: j :: r else if i = j then j :: r else j :: insU i r
/-- sorted, each but once -/
def sortU : List Int → List Int
  | [] => []
  | i :: r => insU i (sortU r)
def maxI : Int → List Int → Int
  | m, [] => m
  | m, i :: r => maxI (if i > m then i else m) r
def minI : Int → List Int → Int
  | m, [] => m
  | m, i :: r => minI (if i < m then i else m) r
def items : D → R (List D)
  | .lst xs => .ok xs
  | .tup xs => .ok xs
  | _ => .bad
def itemsL : D → R (List D)
  | .lst xs => .ok xs
  | _ => .bad
def someR {α : Type} : Option α → R α
  | some a => .ok a
  | none => .bad
/-- what may be sorted by data: alike, plain, pairs and the like or none of them -/
def sortOk (xs : List D) : Bool := PyData.plainAll (D.pyL xs) && (xs.all fun a => xs.all fun b => PySem.W.alike a.py b.py) && ((xs.all fun a => match a with | .tup (_ :: _) => true | _ => false) || (xs.all fun a => match a with | .int _ => true | .str _ => true | _ => false)) && xs.all fun a => decide (a.py.depth ≤ 60)
def dmD (mx : Bool) : List Int → D
  | [] => .non
  | m :: r => .int (if mx then r.foldl max m else r.foldl min m)
def catD : D → D → R D
  | .lst x, .lst y => .guard (decide (x.length + y.length ≤ Line)) (.ok (.lst (x ++ y)))
  | _, _ => .bad
def biD : Bi → List D → R D
  | .len, [.lst xs] => .ok (.int xs.length)
  | .len, [.tup xs] => .ok (.int xs.length)
  | .len, [.str z] => .guard (decide (z.length ≤ Line)) (.ok (.int z.length))
  | .min2, [.int i, .int j] => .ok (.int (if j < i then j else i))
  | .max2, [.int i, .int j] => .ok (.int (if j > i then j else i))
  | .sum, [.lst xs] => (someR (dInts xs)).bind fun is => .ok (.int is.sum)
  | .min1, [.lst xs] => (someR (dInts xs)).bind fun is => match is with | [] => .bad | m :: r => .ok (.int (minI m r))
  | .max1, [.lst xs] => (someR (dInts xs)).bind fun is => match is with | [] => .bad | m :: r => .ok (.int (maxI m r))
  | .all, [.lst xs] => (someR (dBls xs)).bind fun bs => .ok (.bl (bs.all id))
  | .any, [.lst xs] => (someR (dBls xs)).bind fun bs => .ok (.bl (bs.any id))
  | .list, [.lst xs] => .ok (.lst xs)
  | .list, [.tup xs] => .ok (.lst xs)
  | .list, [.dcT ks _] => .ok (.lst (ks.map fun k => .tup (k.map kD)))
  | .tuple, [.lst xs] => .ok (.tup xs)
  | .tuple, [.tup xs] => .ok (.tup xs)
  | .sorted, [.lst xs] => match dInts xs with
    | some is => .ok (.lst ((sortI is).map .int))
    | none => .guard (sortOk xs) (.ok (.lst (xs.mergeSort (PySem.W.dataLe false D.py))))
  | .sum, [.tup xs] => (someR (dInts xs)).bind fun is => .ok (.int is.sum)
  | .int_, [.int i] => .ok (.int i)
  | .int_, [.bl b] => .ok (.int (if b then 1 else 0))
  | .str_, [.int i] => .guard (decide (i.natAbs.log2 < 1920)) (.ok (.str (toString i)))
  | _, _ => .bad
def isiD : Ty → D → R Bool
  | t, .non => .ok false
  | t, .bl _ => .ok (match t with | .int => true | .bool => true | _ => false)
  | t, .int _ => .ok (match t with | .int => true | _ => false)
  | t, .str _ => .ok (match t with | .str => true | _ => false)
  | t, .tup _ => .ok (match t with | .tuple => true | _ => false)
  | t, .lst _ => .ok (match t with | .list => true | _ => false)
  | _, .dct _ _ _ => .bad
  | _, .dcT _ _ => .bad

/-! ### expressions -/
inductive Tg where
  | one (i : Nat)
  | many (is : List Nat)
  | nest (is : List Nat) (j : Nat)
mutual
inductive Ex where
  | var (i : Nat)
  | cst (d : D)
  | gint (x : Str) (i : Int)
  | bin (o : Bop) (a b : Ex)
  | neg (a : Ex)
  | cmp (o : Cop) (a b : Ex)
  | isN (a : Ex) | notN (a : Ex)
  | chain (o o' : Cop) (a b c : Ex)
  | and_ (a b : Ex) | or_ (a b : Ex) | not_ (a : Ex)
  | ite (c a b : Ex)
  | tup (es : Exs) | lst (es : Exs)
  | ix (a b : Ex)
  | slF (a lo : Ex) | slT (a hi : Ex) | slB (a lo hi : Ex)
  | call (f : Nat) (es : Exs)
  | callB (f : Nat) (es : Exs)
  | bi (b : Bi) (es : Exs)
  | isi (a : Ex) (t : Ty)
  | comp (it : Itr) (tg : Tg) (own : List Nat) (e : Ex)
  | compIf (it : Itr) (tg : Tg) (own : List Nat) (c e : Ex)
  | sset (a : Ex)
  | lzip (es : Exs)
  | lrng (a b : Ex)
  | lrev (a : Ex)
  /-- min(a, default=None), max(a, default=None) -/
  | dmin (mx : Bool) (a : Ex)
  /-- a + b, two lists, as an own one -/
  | cat (a b : Ex)
  | call0 (f : Nat)
  /-- an empty dict, its keys tuples or not; a dict of one pair -/
  | dnew (t : Bool)
  | dlit (k v : Ex)
  /-- a list display so many times -/
  | repL (es : Exs) (n : Nat)
  | dget1 (i : Nat) (k : Ex)
  | dget2 (i : Nat) (k z : Ex)
inductive Exs where
  | nil
  | cons (a : Ex) (r : Exs)
inductive Itr where
  | seq (a : Ex)
  | rng1 (a : Ex) | rng2 (a b : Ex) | rng3 (a b c : Ex)
  | enum (a : Ex)
  | zip (a b : Ex)
  | rev (a : Ex)
  | its (i : Nat)
end

abbrev Env := List (Option D)
def getV (ρ : Env) (i : Nat) : R D := match ρ[i]? with
  | some (some d) => .ok d
  | _ => .bad
def setV (ρ : Env) (i : Nat) (d : D) : Env := ρ.set i (some d)
def setVs : Env → List Nat → List D → R Env
  | ρ, [], [] => .ok ρ
  | ρ, i :: is, d :: ds => setVs (setV ρ i d) is ds
  | _, _, _ => .bad
def bindT (ρ : Env) : Tg → D → R Env
  | .one i, d => .ok (setV ρ i d)
  | .many is, .tup ds => .guard (decide (ds.length = is.length)) (setVs ρ is ds)
  | .many is, .lst ds => .guard (decide (ds.length = is.length)) (setVs ρ is ds)
  | .many _, _ => .bad
  | .nest is j, .tup [.tup ds, w] => .guard (decide (ds.length = is.length)) ((setVs ρ is ds).bind fun ρ' => .ok (setV ρ' j w))
  | .nest _ _, _ => .bad
def wipeE (ρ : Env) : List Nat → Env
  | [] => ρ
  | v :: vs => (wipeE ρ vs).set v none
def compL (f : D → R (Option D)) : List D → R (List D)
  | [] => .ok []
  | x :: r => (f x).bind fun o => (compL f r).bind fun rs => .ok (match o with | some d => d :: rs | none => rs)
def upto (lo : Int) : Nat → List D
  | 0 => []
  | n + 1 => .int lo :: upto (lo + 1) n
def upby (lo c : Int) : Nat → List D
  | 0 => []
  | n + 1 => .int lo :: upby (lo + c) c n
def enumL (k : Nat) : List D → List D
  | [] => []
  | x :: r => .tup [.int k, x] :: enumL (k + 1) r
def zipL : List D → List D → List D
  | x :: xs, y :: ys => .tup [x, y] :: zipL xs ys
  | _, _ => []
def zipD : D → D → R (List D)
  | .lst xs, .lst ys => .ok (zipL xs ys)
  | .tup xs, .tup ys => .ok (zipL xs ys)
  | _, _ => .bad
def zip4L : List D → List D → List D → List D → List D
  | x :: xs, y :: ys, z :: zs, w :: ws => .tup [x, y, z, w] :: zip4L xs ys zs ws
  | _, _, _, _ => []
def zip4D : List D → R D
  | [.lst xs, .lst ys, .lst zs, .lst ws] => .guard (decide (ys.length = xs.length) && decide (zs.length = xs.length) && decide (ws.length = xs.length)) (.ok (.lst (zip4L xs ys zs ws)))
  | _ => .bad
def small62 (i : Int) : Bool := decide (-(2 ^ 62) ≤ i) && decide (i < 2 ^ 62)

section
variable (fn : Nat → List D → R D)
mutual
def ev : Ex → Env → R D
  | .var i, ρ => getV ρ i
  | .cst d, _ => .ok d
  | .gint _ i, _ => .ok (.int i)
  | .bin o a b, ρ => (ev a ρ).bind fun x => (ev b ρ).bind fun y => binD o x y
  | .neg a, ρ => (ev a ρ).bind fun x => (asInt x).bind fun i => .ok (.int (-i))
  | .cmp o a b, ρ => (ev a ρ).bind fun x => (ev b ρ).bind fun y => cmpD o x y
  | .isN a, ρ => (ev a ρ).bind fun x => .ok (.bl (isNon x))
  | .notN a, ρ => (ev a ρ).bind fun x => .ok (.bl (!isNon x))
  | .chain o o' a b c, ρ => (ev a ρ).bind fun x => (ev b ρ).bind fun y => (cmpD o x y).bind fun t => (asBool t).bind fun k =>
      if k then (ev c ρ).bind fun z => cmpD o' y z else .ok (.bl false)
  | .and_ a b, ρ => (ev a ρ).bind fun x => (asBool x).bind fun k => if k then (ev b ρ).bind fun y => (asBool y).bind fun k => .ok (.bl k) else .ok (.bl false)
  | .or_ a b, ρ => (ev a ρ).bind fun x => (asBool x).bind fun k => if k then .ok (.bl true) else (ev b ρ).bind fun y => (asBool y).bind fun k => .ok (.bl k)
  | .not_ a, ρ => (ev a ρ).bind fun x => (asBool x).bind fun k => .ok (.bl (!k))
  | .ite c a b, ρ => (ev c ρ).bind fun x => (asBool x).bind fun k => if k then ev a ρ else ev b ρ
  | .tup es, ρ => (evs es ρ).bind fun ds => .ok (.tup ds)
  | .lst es, ρ => (evs es ρ).bind fun ds => .ok (.lst ds)
  | .ix a b, ρ => (ev a ρ).bind fun x => (ev b ρ).bind fun y => ixD x y
  | .slF a lo, ρ => (ev a ρ).bind fun x => (ev lo ρ).bind fun y => (asInt y).bind fun i => slD x (some i) none
  | .slT a hi, ρ => (ev a ρ).bind fun x => (ev hi ρ).bind fun y => (asInt y).bind fun i => slD x none (some i)
  | .slB a lo hi, ρ => (ev a ρ).bind fun x => (ev lo ρ).bind fun y => (asInt y).bind fun i => (ev hi ρ).bind fun z => (asInt z).bind fun j => slD x (some i) (some j)
  | .call f es, ρ => (evs es ρ).bind fun ds => fn f ds
  | .callB f es, ρ => (evs es ρ).bind fun ds => (fn f ds).bind fun z => .guard z.flat (.ok z)
  | .bi b es, ρ => (evs es ρ).bind fun ds => biD b ds
  | .isi a t, ρ => (ev a ρ).bind fun x => (isiD t x).bind fun b => .ok (.bl b)
  | .comp it tg own e, ρ => (evi it ρ).bind fun xs => .guard (decide (xs.length ≤ Line)) ((compL (fun x => (bindT (wipeE ρ own) tg x).bind fun ρ' => (ev e ρ').bind fun d => .ok (some d)) xs).nox.bind fun ds => .ok (.lst ds))
  | .compIf it tg own c e, ρ => (evi it ρ).bind fun xs => .guard (decide (xs.length ≤ Line)) ((compL (fun x => (bindT (wipeE ρ own) tg x).bind fun ρ' => (ev c ρ').bind fun t => (asBool t).bind fun k =>
      if k then (ev e ρ').bind fun d => .ok (some d) else .ok none) xs).nox.bind fun ds => .ok (.lst ds))
  | .sset a, ρ => (ev a ρ).bind fun x => (itemsL x).bind fun xs => (someR (dInts xs)).bind fun is => .guard (decide (is.length < 4095)) (.ok (.lst ((sortU is).map .int)))
  | .lzip es, ρ => (evs es ρ).bind fun ds => zip4D ds
  | .lrng a b, ρ => (ev a ρ).bind fun x => (ev b ρ).bind fun y => (asInt x).bind fun i => (asInt y).bind fun j => .guard (small62 i && small62 j && decide ((j - i).toNat ≤ Line)) (.ok (.lst (upto i (j - i).toNat)))
  | .lrev a, ρ => (ev a ρ).bind fun x => (itemsL x).bind fun xs => .ok (.lst xs.reverse)
  | .dmin mx a, ρ => (ev a ρ).bind fun x => (itemsL x).bind fun xs => (someR (dInts xs)).bind fun is => .ok (dmD mx is)
  | .cat a b, ρ => (ev a ρ).bind fun x => (ev b ρ).bind fun y => catD x y
  | .call0 f, _ => fn f []
  | .dnew t, _ => .ok (if t then .dcT [] [] else .dct false [] [])
  | .dlit k v, ρ => (ev k ρ).bind fun x => (ev v ρ).bind fun y => dlD x y
  | .repL es n, ρ => (evs es ρ).bind fun ds => .guard (decide (n ≤ 1000 ∧ ds.length * n ≤ Line)) (.ok (.lst (List.replicate n ds).flatten))
  | .dget1 i k, ρ => (getV ρ i).bind fun x => (asDct x).bind fun x => (ev k ρ).bind fun y => dgD x y .non
  | .dget2 i k z, ρ => (getV ρ i).bind fun x => (asDct x).bind fun x => (ev k ρ).bind fun y => (ev z ρ).bind fun w => dgD x y w
def evs : Exs → Env → R (List D)
  | .nil, _ => .ok []
  | .cons a r, ρ => (ev a ρ).bind fun x => (evs r ρ).bind fun xs => .ok (x :: xs)
def evi : Itr → Env → R (List D)
  | .seq a, ρ => (ev a ρ).bind items
  | .rng1 a, ρ => (ev a ρ).bind fun x => (asInt x).bind fun j => .ok (upto 0 j.toNat)
  | .rng2 a b, ρ => (ev a ρ).bind fun x => (ev b ρ).bind fun y => (asInt x).bind fun i => (asInt y).bind fun j => .ok (upto i (j - i).toNat)
  | .rng3 a b c, ρ => (ev a ρ).bind fun x => (ev b ρ).bind fun y => (ev c ρ).bind fun z => (asInt x).bind fun i => (asInt y).bind fun j => (asInt z).bind fun k =>
      .guard (decide (k ≠ 0) && decide (k.natAbs < 1073741824) && Builtin.Range.small i j k && decide (0 ≤ Builtin.Range.rangeSize i j k)) (.ok (upby i k (Builtin.Range.rangeSize i j k).toNat))
  | .enum a, ρ => (ev a ρ).bind fun x => (items x).bind fun xs => .ok (enumL 0 xs)
  | .zip a b, ρ => (ev a ρ).bind fun x => (ev b ρ).bind fun y => zipD x y
  | .rev a, ρ => (ev a ρ).bind fun x => (items x).bind fun xs => .ok xs.reverse
  | .its i, ρ => (getV ρ i).bind itemsD
end
end
end Den
namespace Den
open PySem PySem.Spec PyProof.Rows L2
section
variable {X : Cx}
/-! ### a sum over a tuple -/
def rSumT (K : PySem.W.Frag) : List V → Hp → VK → Prop := fun vs H Q => ∃ (a : Addr) (ns : List Int), vs = [V.ref a] ∧ SqT K H a (ns.map V.int) ∧ Q (.int ns.sum) H
theorem cr_sumT (hc : X.calm = true) : CallR X (.builtin "sum") (rSumT X.K) := by
  intro pins s σ H vs us Q I r h
  obtain ⟨a, ns, rfl, hs, q⟩ := h
  obtain ⟨its, rv, hl, hz⟩ := I.tuple hs
  rw [Vals.ref1 r]
  have hi := rv.ints
  obtain ⟨xs, e⟩ := hi.allInts.items
  have hn : numsOf (intItems xs).toList = ns := by rw [← e]; exact hi.numsOf
  rw [nums_intItems] at hn
  rw [e] at hl
  refine PySem.W.ktm_sumG (I.ok.hd hc) hl fun h' tk t' hk => ?_
  have I1 : Inv X pins σ H { s with heap := h', toks := tk } := I.kept hk
  refine ⟨.int ns.sum, H, I1, ⟨t', ?_⟩, q⟩
  rw [preSum_eq, List.take_of_length_le (by simp), hn]
/-! ### sorted, by data -/
def rSortedD (K : PySem.W.Frag) : List V → Hp → VK → Prop := fun vs H Q => ∃ (a : Addr) (bs : List (V × PyData)), vs = [V.ref a] ∧ SqL K H a (bs.map Prod.fst) ∧ DpAll K H (bs.map Prod.fst) (bs.map Prod.snd) ∧
  PySem.W.AllAlike (bs.map Prod.snd) ∧ PySem.W.Sortable (bs.map Prod.snd) ∧ (∀ b ∈ bs, b.2.depth ≤ 60) ∧ ∀ p, H p = none → Q (.ref p) (upd H p (.lst ((bs.mergeSort (PySem.W.dataLe false Prod.snd)).map Prod.fst)))
theorem vals_each {α : Type} {f : α → V} : ∀ {bs : List α} {its : List Value}, Vals (bs.map f) its → PySem.W.EachIs (fun u b => RelV (f b) u) its bs
  | [], _, h => by cases h; exact .nil
  | b :: bs, _, h => by
    cases h with
    | cons r t => exact .cons r (vals_each t)
theorem each_vals {α : Type} {f : α → V} : ∀ {bs : List α} {its : List Value}, PySem.W.EachIs (fun u b => RelV (f b) u) its bs → Vals (bs.map f) its
  | [], _, h => by cases h; exact .nil
  | b :: bs, _, h => by
    cases h with
    | cons r t => exact .cons r (each_vals t)
theorem dp_each {pins : List (Addr × Obj)} {s : Shared} {σ : L2.St} {H : Hp} (I : Inv X pins σ H s) : ∀ {bs : List (V × PyData)} {its : List Value}, Vals (bs.map Prod.fst) its → DpAll X.K H (bs.map Prod.fst) (bs.map Prod.snd) → PySem.W.EachIs (fun u b => ∃ as, Reads s.heap u b.2 as) its bs
  | [], _, h, _ => by cases h; exact .nil
  | b :: bs, _, h, d => by
    cases h with
    | cons r t =>
      cases d with
      | cons d dt => exact .cons (Dp.reads I b.2 b.1 _ d r) (dp_each I t dt)
theorem cr_sortedD (hu : X.A.units + 64 < cLine) : CallR X (.builtin "sorted") (rSortedD X.K) := by
  intro pins s σ H vs us Q I r h
  obtain ⟨a, bs, rfl, hs, hd, ha, hk, hdep, q⟩ := h
  obtain ⟨its, rv, hl, hz⟩ := I.list hs
  rw [Vals.ref1 r]
  have hlen : its.length = bs.length := by have := rv.length; rw [List.length_map] at this; exact this.symm
  refine PySem.W.sorted_data (bs := bs) (enc := Prod.snd) (R := fun u b => RelV b.1 u) (vs := its) hl.isList (vals_each rv) (dp_each I rv hd) ha hk (by rw [List.length_map] at hz; exact hz) (fun b hb => by have := hdep b hb; omega) fun out h1 h2 => ?_
  obtain ⟨ep, he'⟩ := PyProof.Rows.sortedAll_at s.heap its out.toArray
  have hv := each_vals (f := Prod.fst) h2
  refine ⟨.ref _, upd H (s.heap.objs.size + 1) (.lst ((bs.mergeSort (PySem.W.dataLe false Prod.snd)).map Prod.fst)), I.laid (t' := s.toks) (fun _ _ => PyProof.Rows.sortedAll_old) (Nat.le_succ _) ⟨?_, out, ep, hv, he'⟩, rfl, q _ (I.hok.fresh (Nat.le_succ _))⟩
  rw [List.length_map, List.length_mergeSort]
  rw [List.length_map] at hz
  exact hz
/-! ### the least, the greatest, or what is said -/
def rDm (K : PySem.W.Frag) (mx : Bool) : List V → List V → Hp → VK → Prop := fun vs zs H Q => ∃ (a : Addr) (ns : List Int), vs = [V.ref a] ∧ zs = [V.non] ∧ SqL K H a (ns.map V.int) ∧ Q (match ns with | [] => .non | m :: r => .int (if mx then r.foldl max m else r.foldl min m)) H
theorem alike_ints (ns : List Int) : PySem.W.AlikeAll (ns.map PyData.int) := by
  refine ⟨fun x hx y hy => ?_, fun x hx => ?_⟩
  · obtain ⟨i, _, rfl⟩ := List.mem_map.mp hx
    obtain ⟨j, _, rfl⟩ := List.mem_map.mp hy
    simp [PySem.W.alike]
  · obtain ⟨i, _, rfl⟩ := List.mem_map.mp hx
    exact fun h => nomatch h
theorem reads_ints {h : Heap} : ∀ {its : List Value} {ns : List Int}, IntsAre its ns → ∃ as, ReadsAll h its (ns.map PyData.int) as
  | _, _, .nil => ⟨[], .nil⟩
  | _, _, .cons n t r => by
    obtain ⟨as, k⟩ := reads_ints (h := h) r
    exact ⟨[] ++ as, .cons (.int n t) k⟩
theorem cr_dm (hc : X.calm = true) (hu : X.A.units + 64 < cLine) (mx : Bool) : CallRK X (.builtin (if mx then "max" else "min")) ["default"] (rDm X.K mx) := by
  intro pins s σ H vs zs us ws Q I r rz h
  obtain ⟨a, ns, rfl, rfl, hs, q⟩ := h
  obtain ⟨its, rv, hl, hz⟩ := I.list hs
  rw [Vals.ref1 r]
  obtain ⟨u, rfl, ru⟩ := vals1 rz
  obtain rfl : u = Value.none := ru
  have hi := rv.ints
  obtain ⟨as, rd⟩ := reads_ints (h := s.heap) hi
  have hd : PyData.depthAll (ns.map PyData.int) = 0 := PySem.W.depth_ints ns
  have I1 : ∀ {h' : Heap} {tk : Nat}, (∀ b o, s.heap.get? b = some o → h'.get? b = some o) → Inv X pins σ H { s with heap := h', toks := tk } := fun hk => I.kept hk
  have hIs : s.heap.IsList a its.toArray := hl.isList
  have key : ∀ (y : PyData) (ys : List PyData), ns.map PyData.int = y :: ys → ∃ m r, ns = m :: r ∧ y = .int m ∧ ys = r.map PyData.int := fun y ys e => by
    cases ns with
    | nil => cases e
    | cons m r =>
      rw [List.map_cons] at e
      injection e with e1 e2
      exact ⟨m, r, rfl, e1.symm, e2.symm⟩
  cases mx with
  | false =>
    refine PySem.W.min_list_default (vs := its.toArray) (I.ok.hd hc) hIs rd (alike_ints ns) (by rw [hd]; omega) (fun e h' tk hk => ?_) fun y ys i v h' tk bs e hv hr hk => ?_
    · have : ns = [] := List.map_eq_nil_iff.mp e
      subst this
      exact ⟨.non, H, I1 hk, rfl, q⟩
    · obtain ⟨m, r, rfl, rfl, rfl⟩ := key y ys e
      rw [PySem.W.minD_ints] at hr
      cases hr
      exact ⟨.int (r.foldl min m), H, I1 hk, ⟨_, rfl⟩, q⟩
  | true =>
    refine PySem.W.max_list_default (vs := its.toArray) (I.ok.hd hc) hIs rd (alike_ints ns) (by rw [hd]; omega) (fun e h' tk hk => ?_) fun y ys i v h' tk bs e hv hr hk => ?_
    · have : ns = [] := List.map_eq_nil_iff.mp e
      subst this
      exact ⟨.non, H, I1 hk, rfl, q⟩
    · obtain ⟨m, r, rfl, rfl, rfl⟩ := key y ys e
      rw [PySem.W.maxD_ints] at hr
      cases hr
      exact ⟨.int (r.foldl max m), H, I1 hk, ⟨_, rfl⟩, q⟩
/-! ### a list longer by any list -/
theorem list_extW (l b : Addr) (its its2 : Array Value) (n n2 : Nat) (dd : Option Addr) (sl : Array (Option Value)) (h0 : ¬(!its.isEmpty && Builtin.List.listTooLong (its.size + its2.size)) = true) (h1 : its.size ≤ sizeLine) (h2 : its.size + its2.size ≤ sizeLine + 1) :
    Meets (Builtin.«list.extend» ⟨[.ref l, .ref b], []⟩) (fun _ R s => s.heap.get? l = some { cls := .type "list", dict := none, data := .seq its n, slots := #[] } ∧ s.heap.get? b = some { cls := .type "list", dict := dd, data := .seq its2 n2, slots := sl } ∧
      R (.ok (.ret Value.none)) { s with heap := s.heap.update l (Obj.mapSeq fun x => x ++ its2), toks := s.toks }) :=
  .of_wp fun prog w A R s h => by
    obtain ⟨hp, g, d, tk, os⟩ := s
    obtain ⟨hl, hb, h⟩ := h
    have f1 := AutoSeq1.idx_int
    have f2 := AutoSeq1.sub_tuple_tuple
    have f3 := AutoSeq1.sub_list_list
    have f4 := AutoSeq1.sub_tuple_list
    have f5 := AutoSeq1.sub_list_tuple
    have hz3 : (its ++ its2).size ≤ sizeLine + 1 := by rw [Array.size_append]; exact h2
    wp_walk using (wpAny_updateSeq hl rfl (hz := h1) (_hz' := hz3)), AutoSeq1.wpAny_loadPart' hl, AutoSeq1.wpAny_loadPart' hb
    exact ⟨_, rfl, h⟩
def rExtS (K : PySem.W.Frag) : V → List V → Hp → VK → Prop := fun x vs H Q => ∃ l b xs zs, x = .ref l ∧ vs = [.ref b] ∧ H l = some (.lst xs) ∧ SqL K H b zs ∧ xs.length + zs.length ≤ sizeLine ∧ Q .non (upd H l (.lst (xs ++ zs)))
theorem mt_extS : MtM X "list.extend" (rExtS X.K) := by
  intro pins s σ H x vs v us Q I rx rv h
  obtain ⟨l, b, xs, zs, rfl, rfl, hH, hB, hz, q⟩ := h
  cases rx
  obtain ⟨u, rfl, ru⟩ := rv.one
  cases ru
  obtain ⟨z, its, n, r, hl, e⟩ := I.lstM hH
  obtain ⟨its2, r2, pl2, z2⟩ := I.list hB
  obtain ⟨⟨cls2, dd2, data2, sl2⟩, ho2, hc2, n2, hd2⟩ := id pl2.isList
  simp only at hc2 hd2
  subst hc2 hd2
  have e1 := r.length
  have e2 := r2.length
  have hsz : its.toArray.size + its2.toArray.size ≤ sizeLine := by rw [List.size_toArray, List.size_toArray]; omega
  have hlong : ¬ (!its.toArray.isEmpty && Builtin.List.listTooLong (its.toArray.size + its2.toArray.size)) = true := by
    rw [notLongL hsz, Bool.and_false]
    exact Bool.false_ne_true
  refine call_meets PySem.F.slot_list_extend ⟨_, e, rfl⟩ PySem.F.entry_list_extend (PySem.F.args_list_extend_2 _ _)
    (list_extW l b its.toArray its2.toArray n n2 dd2 sl2 hlong (by rw [List.size_toArray]; omega) (by omega)) ⟨e, ho2, ?_⟩
  refine ⟨.non, _, I.lset (its' := its ++ its2) hH e (by simp) (r.append r2) ?_, rfl, q⟩
  rw [List.length_append]; omega
/-! ### a def called without arguments -/
theorem pe_call0S {CX : CXT} {k : Nat} {f : Addr} {fd : FuncData} {ps : List Str} {sp : Sp} {x : Str} {E : L2.St → XK} {p pos : Pos} (F : FnOk X.prog X.w X.K X.mg X.base CX k f fd ps sp) (hr : Room k X.A) (hg : Gl X x) (hm : X.mg x = some (.ref f)) (hk : PySem.W.keepIn X.K (.ref f) = true) (hb : Binds X.K fd ps [])
    (hx : ∀ σ, PassesAt CX X σ (E σ)) (hdb : (x == ("__debug__" : Str)) = false := by decide) : PE X (.Call (.Name x p) [] [] pos) (tCallS sp E tNil) :=
  ⟨fun pins s σ H Q I h => wpAny_Call_Name_kw (ld_glob I hg hm (PySem.W.callWith_K0 I.kIn hk (run_fnS (us := []) F hr hb (hx σ) I .nil h)) hdb)⟩
end
end Den
namespace Den
open PySem PySem.Spec PyProof.Rows L2

/-! ### operators' rules, by data -/
section
variable {X : Cx} {K : PySem.W.Frag} {H G : Hp}
theorem lst_inv {v : V} {ds : List D} (h : Rp K H v (.lst ds)) : ∃ a xs, v = .ref a ∧ SqL K H a xs ∧ RpL K H xs ds := by
  cases h with
  | lst a b => exact ⟨_, _, rfl, a, b⟩
theorem tup_inv {v : V} {ds : List D} (h : Rp K H v (.tup ds)) : ∃ a xs, v = .ref a ∧ SqT K H a xs ∧ RpL K H xs ds := by
  cases h with
  | tup a b => exact ⟨_, _, rfl, a, b⟩
theorem int_inv {v : V} {i : Int} (h : Rp K H v (.int i)) : v = .int i := by cases h; rfl
theorem bl_inv {v : V} {b : Bool} (h : Rp K H v (.bl b)) : v = .bl b := by cases h; rfl
theorem str_inv {v : V} {b : Str} (h : Rp K H v (.str b)) : v = .str b := by cases h; rfl
theorem non_inv {v : V} (h : Rp K H v .non) : v = .non := by cases h; rfl
theorem isNon_iff {v : V} {d : D} (h : Rp K H v d) : decide (v = .non) = isNon d := by
  cases h <;> simp [isNon]
mutual
theorem dp_of : ∀ {d : D} {v : V}, Rp K H v d → d.py.plain = true → Dp K H v d.py
  | _, _, .non, _ => .non
  | _, _, .bl b, _ => .bl b
  | _, _, .int i, _ => .int i
  | _, _, .str x, _ => .str x
  | .lst ds, _, .lst h l, p => .lst h (dpL_of l (by simpa [D.py, PyData.plain] using p))
  | .tup ds, _, .tup h l, p => .tup h (dpL_of l (by simpa [D.py, PyData.plain] using p))
  | _, _, .dct h l, p => by simp [D.py, PyData.plain] at p
  | _, _, .dctL h l, p => by simp [D.py, PyData.plain] at p
  | _, _, .dcT h l, p => by simp [D.py, PyData.plain] at p
theorem dpL_of : ∀ {ds : List D} {vs : List V}, RpL K H vs ds → PyData.plainAll (D.pyL ds) = true → DpAll K H vs (D.pyL ds)
  | _, _, .nil, _ => .nil
  | d :: ds, _, .cons h l, p => by
    rw [D.pyL, PyData.plainAll, Bool.and_eq_true] at p
    exact .cons (dp_of h p.1) (dpL_of l p.2)
end
/-- x == y, of data -/
def rEqP (K : PySem.W.Frag) : R2 := fun x y H Q => ∃ d e, Dp K H x d ∧ Dp K H y e ∧ d.plain = true ∧ e.plain = true ∧ min d.depth e.depth ≤ 60 ∧ Q (.bl (PyData.eqv d e)) H
def rNeP (K : PySem.W.Frag) : R2 := fun x y H Q => ∃ d e, Dp K H x d ∧ Dp K H y e ∧ d.plain = true ∧ e.plain = true ∧ min d.depth e.depth ≤ 60 ∧ Q (.bl (!PyData.eqv d e)) H
theorem op_eqP (hu : X.A.units + 64 < cLine) : OpR X (compareOp .Eq) (rEqP X.K) := by
  intro pins s σ H x y v u Q I rx ry h
  obtain ⟨d, e, hd, he, sd, se, hm, q⟩ := h
  obtain ⟨as, r1⟩ := Dp.reads I d x v hd rx
  obtain ⟨bs, r2⟩ := Dp.reads I e y u he ry
  exact SeqAt.eq_plain r1 r2 sd se (by omega) ⟨.bl _, H, I, rfl, q⟩
theorem op_neP (hu : X.A.units + 64 < cLine) : OpR X (compareOp .NotEq) (rNeP X.K) := by
  intro pins s σ H x y v u Q I rx ry h
  obtain ⟨d, e, hd, he, sd, se, hm, q⟩ := h
  obtain ⟨as, r1⟩ := Dp.reads I d x v hd rx
  obtain ⟨bs, r2⟩ := Dp.reads I e y u he ry
  exact SeqAt.ne_plain r1 r2 sd se (by omega) ⟨.bl _, H, I, rfl, q⟩
def rInP (K : PySem.W.Frag) (neg : Bool) : R2 := fun x y H Q => ∃ d es, Dp K H x d ∧ (Dp K H y (.list es) ∨ Dp K H y (.tuple es)) ∧ d.plain = true ∧ PyData.plainAll es = true ∧ d.depth ≤ 60 ∧
  Q (.bl (if neg then !(es.any fun z => PyData.eqv z d) else es.any fun z => PyData.eqv z d)) H
theorem op_inP (hu : X.A.units + 64 < cLine) : OpR X (compareOp .In) (rInP X.K false) := by
  intro pins s σ H x y v u Q I rx ry h
  obtain ⟨d, es, hd, he, sd, se, hm, q⟩ := h
  obtain ⟨as, r1⟩ := Dp.reads I d x v hd rx
  rcases he with he | he
  · obtain ⟨bs, r2⟩ := Dp.reads I _ y u he ry
    exact SeqAt.in_list_data r2 r1 se sd (by omega) ⟨.bl _, H, I, rfl, q⟩
  · obtain ⟨bs, r2⟩ := Dp.reads I _ y u he ry
    exact SeqAt.in_tuple_data r2 r1 se sd (by omega) ⟨.bl _, H, I, rfl, q⟩
theorem op_notinP (hu : X.A.units + 64 < cLine) : OpR X (compareOp .NotIn) (rInP X.K true) := by
  intro pins s σ H x y v u Q I rx ry h
  obtain ⟨d, es, hd, he, sd, se, hm, q⟩ := h
  obtain ⟨as, r1⟩ := Dp.reads I d x v hd rx
  rcases he with he | he
  · obtain ⟨bs, r2⟩ := Dp.reads I _ y u he ry
    exact SeqAt.notIn_list_data r2 r1 se sd (by omega) ⟨.bl _, H, I, rfl, q⟩
  · obtain ⟨bs, r2⟩ := Dp.reads I _ y u he ry
    exact SeqAt.notIn_tuple_data r2 r1 se sd (by omega) ⟨.bl _, H, I, rfl, q⟩
/-- two lists, a new one -/
def rCatL (K : PySem.W.Frag) : R2 := fun x y H Q => ∃ l b xs zs, x = .ref l ∧ y = .ref b ∧ SqL K H l xs ∧ SqL K H b zs ∧ xs.length + zs.length ≤ sizeLine ∧ ∀ p, H p = none → Q (.ref p) (upd H p (.lst (xs ++ zs)))
theorem op_catL : OpR X (binaryOp .Add) (rCatL X.K) := by
  intro pins s σ H x y v u Q I rx ry h
  obtain ⟨l, b, xs, zs, rfl, rfl, hH, hB, hz, q⟩ := h
  cases rx
  cases ry
  obtain ⟨its, r, pl, z1⟩ := I.list hH
  obtain ⟨its2, r2, pl2, z2⟩ := I.list hB
  have e1 := r.length
  have e2 := r2.length
  obtain ⟨⟨cls, dd, data, sl⟩, ho, hc, n, hd⟩ := id pl.isList
  obtain ⟨⟨cls2, dd2, data2, sl2⟩, ho2, hc2, n2, hd2⟩ := id pl2.isList
  simp only at hc hd hc2 hd2
  subst hc hd hc2 hd2
  have e : its.toArray ++ its2.toArray = (its ++ its2).toArray := by simp
  refine concat_meets ⟨_, ho, rfl⟩ ⟨_, ho2, rfl⟩ noFill_list_add seq_list_add PySem.F.slot_list_add PySem.F.entry_list_add (PySem.F.args_list_add_2 _ _) (list_addW l b its.toArray its2.toArray n n2 dd dd2 sl sl2 (by simp only [List.size_toArray]; omega)) ⟨ho, ho2, ?_⟩
  rw [e]
  exact ⟨.ref _, _, I.lnew (t' := s.toks) (r.append r2) (by rw [List.length_append]; omega), rfl, q _ I.fresh⟩
/-- products, quotients of any size that the model serves -/
theorem mulOk_ok {i j : Int} (h : mulOk i j = true) : IntMulOk i j := by
  have b : ∀ x : Int, Builtin.Int.intBits x ≤ x.natAbs.log2 + 1 := fun x => by
    unfold Builtin.Int.intBits
    split <;> omega
  have h1 := b i
  have h2 := b j
  have h3 : i.natAbs.log2 + j.natAbs.log2 < 100000000 := of_decide_eq_true h
  have e : bitsLine = 134217728 := by decide
  unfold IntMulOk
  intro z
  rw [Bool.and_eq_true] at z
  have z2 := z.2
  unfold Builtin.Int.intTooBig at z2
  have z3 := of_decide_eq_true z2
  rw [e] at z3
  omega
theorem op_mulD : OpR X (binaryOp .Mult) (rI (fun i j => mulOk i j = true) fun i j => .int (i * j)) := opI fun _ _ _ _ _ _ _ hc q => mul_int q (mulOk_ok hc)
theorem op_fdivD : OpR X (binaryOp .FloorDiv) (rI (fun _ j => divOk j = true) fun i j => .int (i.fdiv j)) := opI fun i j _ _ _ _ _ hc q => by
  unfold divOk at hc
  rw [Bool.and_eq_true, decide_eq_true_eq, decide_eq_true_eq] at hc
  exact floordiv_int hc.1 q (.inl (PyProof.noPylong_of_log2 hc.2))
theorem op_powD : OpR X (binaryOp .Pow) (rI (fun i j => powOk i j = true) fun i j => .int (i ^ j.toNat)) := opI fun _ _ _ _ _ _ _ hc q => by
  unfold powOk at hc
  rw [Bool.and_eq_true, Bool.and_eq_true, decide_eq_true_eq, decide_eq_true_eq, decide_eq_true_eq] at hc
  exact pow_int_small hc.1.1 hc.1.2 hc.2 q
end

/-! ### the rule of a binary operator, by data -/
def Bop.py : Bop → Operator
  | .add => .Add | .sub => .Sub | .mul => .Mult | .fdiv => .FloorDiv | .mod => .Mod | .pow => .Pow
theorem sizeLn : sizeLine = Line := sizeLine_eq
section
variable {X : Cx} {G H : Hp}
/-- what an operator gives: the value stands, shared, behind -/
def OpD (X : Cx) (f : Value → Value → Sem Value) (g : D → D → R D) : Prop := ∃ r : R2, OpR X f r ∧
  ∀ (G H : Hp) (x y : V) (d e z : D) (Q : VK), Ok2 G H → PB X.K G H x d → PB X.K G H y e → g d e = .ok z → (∀ v H' G', Stp G H G' H' → Rp X.K G' v z → Q v H') → r x y H Q
theorem OpR.ex {f : Value → Value → Sem Value} {ι : Type} {r : ι → R2} (h : ∀ i, OpR X f (r i)) : OpR X f (fun x y H Q => ∃ i, r i x y H Q) := by
  intro pins s σ H x y v u Q I rx ry ⟨i, q⟩
  exact h i pins s σ H x y v u Q I rx ry q
/-- an operator by the values' data: the rule is chosen by the data -/
theorem opD_of {f : Value → Value → Sem Value} {g : D → D → R D}
    (h : ∀ (G H : Hp) (x y : V) (d e z : D) (Q : VK), Ok2 G H → PB X.K G H x d → PB X.K G H y e → g d e = .ok z → (∀ v H' G', Stp G H G' H' → Rp X.K G' v z → Q v H') → ∃ r : R2, OpR X f r ∧ r x y H Q) : OpD X f g := by
  refine ⟨fun x y H Q => ∃ r : { r : R2 // OpR X f r }, r.1 x y H Q, OpR.ex fun i => i.2, fun G H x y d e z Q o px py hg q => ?_⟩
  obtain ⟨r, hr, q'⟩ := h G H x y d e z Q o px py hg q
  exact ⟨⟨r, hr⟩, q'⟩
theorem PB.lst {v : V} {ds : List D} (h : PB X.K G H v (.lst ds)) (s : Same G H) : ∃ a xs, v = .ref a ∧ SqL X.K H a xs ∧ RpL X.K G xs ds := by
  rcases h with h | ⟨a, o, rfl, ho, hg, r⟩
  · obtain ⟨a, xs, rfl, h1, h2⟩ := lst_inv h
    exact ⟨a, xs, rfl, s.seq h1, h2⟩
  · cases r with
    | lst l => exact ⟨a, _, rfl, SqL.of ho, l⟩
theorem PB.tup {v : V} {ds : List D} (h : PB X.K G H v (.tup ds)) : ∃ a xs, v = .ref a ∧ SqT X.K G a xs ∧ RpL X.K G xs ds := by
  rcases h with h | ⟨a, o, rfl, ho, hg, r⟩
  · exact tup_inv h
  · cases r
theorem PB.int {v : V} {i : Int} (h : PB X.K G H v (.int i)) : v = .int i := by
  rcases h with h | ⟨a, o, rfl, ho, hg, r⟩
  · exact int_inv h
  · cases r
theorem PB.bl {v : V} {i : Bool} (h : PB X.K G H v (.bl i)) : v = .bl i := by
  rcases h with h | ⟨a, o, rfl, ho, hg, r⟩
  · exact bl_inv h
  · cases r
theorem PB.str {v : V} {i : Str} (h : PB X.K G H v (.str i)) : v = .str i := by
  rcases h with h | ⟨a, o, rfl, ho, hg, r⟩
  · exact str_inv h
  · cases r
theorem guard_ok {α : Type} {b : Bool} {r : R α} {a : α} (h : R.guard b r = .ok a) : b = true ∧ r = .ok a := by
  unfold R.guard at h
  split at h
  · exact ⟨by assumption, h⟩
  · cases h
theorem bind_okE {α β : Type} {r : R α} {f : α → R β} {b : β} (h : r.bind f = .ok b) : ∃ a, r = .ok a ∧ f a = .ok b := by
  cases r with
  | ok a => exact ⟨a, rfl, h⟩
  | exc c => cases h
  | bad => cases h
theorem newS {o : HO} {Q : VK} {z : D} (ok : Ok2 G H) (q : ∀ v H' G', Stp G H G' H' → Rp X.K G' v z → Q v H') (r : ∀ p, G p = none → Rp X.K (upd G p o) (.ref p) z) : ∀ p, H p = none → Q (.ref p) (upd H p o) :=
  fun p hp => q _ _ _ (Stp.newS ok hp) (r p (ok.s.free hp))
theorem opD_bin (o : Bop) : OpD X (binaryOp o.py) (binD o) := by
  refine opD_of fun G H x y d e z Q ok px py hg q => ?_
  have fin : ∀ {v : V}, Rp X.K G v z → Q v H := fun r => q _ _ _ (Stp.refl ok) r
  cases o with
  | add =>
    cases d with
    | int i =>
      cases e with
      | int j => cases hg; exact ⟨_, op_add, _, _, px.int, py.int, fin (.int _)⟩
      | _ => cases hg
    | str i =>
      cases e with
      | str j =>
        obtain ⟨g1, g2⟩ := guard_ok hg
        cases g2
        exact ⟨_, op_add_str, _, _, px.str, py.str, by rw [sizeLn]; exact of_decide_eq_true g1, fin (.str _)⟩
      | _ => cases hg
    | tup ds =>
      cases e with
      | tup es =>
        obtain ⟨g1, g2⟩ := guard_ok hg
        cases g2
        obtain ⟨a, xs, e1, h1, l1⟩ := px.tup
        obtain ⟨b, ys, e2, h2, l2⟩ := py.tup
        have n1 := l1.len
        have n2 := l2.len
        refine ⟨_, op_catA, a, b, xs, ys, e1, e2, seqT ok.s h1, seqT ok.s h2, ?_, fun e0 => ?_, fun _ e0 => ?_, fun _ _ => ?_⟩
        · rw [sizeLn, n1, n2]; exact of_decide_eq_true g1
        · subst e0
          cases l1
          exact fin (.tup h2 l2)
        · subst e0
          cases l2
          rw [List.append_nil] at fin
          exact fin (.tup h1 l1)
        · exact newS ok q fun p hp => .tup (SqT.of upd_same) ((l1.append l2).mono (same_upd hp))
      | _ => cases hg
    | lst ds =>
      cases e with
      | lst es =>
        obtain ⟨g1, g2⟩ := guard_ok hg
        cases g2
        obtain ⟨a, xs, e1, h1, l1⟩ := px.lst ok.s
        obtain ⟨b, ys, e2, h2, l2⟩ := py.lst ok.s
        have n1 := l1.len
        have n2 := l2.len
        refine ⟨_, op_catL, a, b, xs, ys, e1, e2, h1, h2, ?_, ?_⟩
        · rw [sizeLn, n1, n2]; exact of_decide_eq_true g1
        · exact newS ok q fun p hp => .lst (SqL.of upd_same) ((l1.append l2).mono (same_upd hp))
      | _ => cases hg
    | _ => cases hg
  | sub =>
    cases d with
    | int i =>
      cases e with
      | int j => cases hg; exact ⟨_, op_sub, _, _, px.int, py.int, fin (.int _)⟩
      | _ => cases hg
    | _ => cases hg
  | mul =>
    cases d with
    | int i =>
      cases e with
      | int j =>
        obtain ⟨g1, g2⟩ := guard_ok hg
        cases g2
        exact ⟨_, op_mulD, _, _, px.int, py.int, g1, fin (.int _)⟩
      | _ => cases hg
    | _ => cases hg
  | fdiv =>
    cases d with
    | int i =>
      cases e with
      | int j =>
        obtain ⟨g1, g2⟩ := guard_ok hg
        cases g2
        exact ⟨_, op_fdivD, _, _, px.int, py.int, g1, fin (.int _)⟩
      | _ => cases hg
    | _ => cases hg
  | mod =>
    cases d with
    | int i =>
      cases e with
      | int j =>
        obtain ⟨g1, g2⟩ := guard_ok hg
        cases g2
        exact ⟨_, op_modN, _, _, px.int, py.int, of_decide_eq_true g1, fin (.int _)⟩
      | _ => cases hg
    | _ => cases hg
  | pow =>
    cases d with
    | int i =>
      cases e with
      | int j =>
        obtain ⟨g1, g2⟩ := guard_ok hg
        cases g2
        exact ⟨_, op_powD, _, _, px.int, py.int, g1, fin (.int _)⟩
      | _ => cases hg
    | _ => cases hg
theorem op_isB : OpR X (compareOp .Is) (fun x y H Q => ∃ i j, x = .bl i ∧ y = .bl j ∧ Q (.bl (i == j)) H) := by
  intro pins s σ H x y v u Q I rx ry h
  obtain ⟨i, j, rfl, rfl, q⟩ := h
  cases rx
  cases ry
  have e : (Value.bool i == Value.bool j) = (i == j) := by cases i <;> cases j <;> rfl
  exact wpAny_pure ⟨.bl (i == j), H, I, by rw [e]; rfl, q⟩
theorem op_isnotB : OpR X (compareOp .IsNot) (fun x y H Q => ∃ i j, x = .bl i ∧ y = .bl j ∧ Q (.bl (!(i == j))) H) := by
  intro pins s σ H x y v u Q I rx ry h
  obtain ⟨i, j, rfl, rfl, q⟩ := h
  cases rx
  cases ry
  have e : (Value.bool i == Value.bool j) = (i == j) := by cases i <;> cases j <;> rfl
  exact wpAny_pure ⟨.bl (!(i == j)), H, I, by rw [e]; rfl, q⟩
/-! ### dicts -/
theorem PB.key {v : V} {d : D} {k : Key} (h : PB X.K G H v d) (e : keyD d = some k) : v = kV k := by
  cases d with
  | int i => cases e; rw [h.int]; rfl
  | str i => cases e; rw [h.str]; rfl
  | _ => cases e
theorem PB.dct {v : V} {f : Bool} {ks : List Key} {ds : List D} (h : PB X.K G H v (.dct f ks ds)) (s : Same G H) : ∃ a kvs, v = .ref a ∧ Rd H a (.dK kvs) ∧ kvs.map (·.1) = ks ∧ RpL X.K G (kvs.map (·.2)) ds := by
  rcases h with h | ⟨a, o, rfl, ho, hg, r⟩
  · cases h with
    | dct e l => exact ⟨_, _, rfl, .inl (s _ _ e), rfl, l⟩
    | dctL e l => exact ⟨_, _, rfl, .inr ⟨_, s _ _ e⟩, rfl, l⟩
  · cases r with
    | dct l => exact ⟨a, _, rfl, .inl ho, rfl, l⟩
theorem PB.dcT {v : V} {ks : List (List Key)} {ds : List D} (h : PB X.K G H v (.dcT ks ds)) (s : Same G H) : ∃ a kvs, v = .ref a ∧ Rd H a (.dT kvs) ∧ kvs.map (·.1) = ks ∧ RpL X.K G (kvs.map (·.2)) ds := by
  rcases h with h | ⟨a, o, rfl, ho, hg, r⟩
  · cases h with
    | dcT e l => exact ⟨_, _, rfl, .inl (s _ _ e), rfl, l⟩
  · cases r with
    | dcT l => exact ⟨a, _, rfl, .inl ho, rfl, l⟩
theorem lkD_val {κ : Type} [DecidableEq κ] {K : PySem.W.Frag} {k : κ} : ∀ {kvs : List (κ × V)} {ds : List D}, RpL K G (kvs.map (·.2)) ds →
    (∀ d, lkD (kvs.map (·.1)) ds k = some d → ∃ v, valV kvs k = some v ∧ Rp K G v d) ∧ (lkD (kvs.map (·.1)) ds k = none → valV kvs k = none)
  | [], [], _ => ⟨(fun d h => nomatch h), fun _ => rfl⟩
  | [], _ :: _, h => by cases h
  | (j, v) :: r, [], h => by cases h
  | (j, v) :: r, d :: ds, h => by
    rw [List.map_cons] at h
    cases h with
    | cons h t =>
      obtain ⟨i1, i2⟩ := lkD_val (k := k) (kvs := r) t
      rw [List.map_cons]
      unfold lkD
      by_cases e : j = k
      · rw [if_pos e, valV_pos (p := (j, v)) e]
        exact ⟨(fun z q => by cases q; exact ⟨v, rfl, h⟩), (fun q => nomatch q)⟩
      · rw [if_neg e, valV_neg (p := (j, v)) e]
        exact ⟨i1, i2⟩
theorem op_inDc (hu : X.A.units + 64 < cLine) : OpR X (compareOp .In) (fun x y H Q => ∃ a o, y = .ref a ∧ DGet H a x o ∧ Q (.bl o.isSome) H) := by
  intro pins s σ H x y v u Q I rx ry h
  obtain ⟨a, o, rfl, g, q⟩ := h
  cases ry
  exact d_in (by omega) I g rx fun s' I' => ⟨.bl o.isSome, H, I', rfl, q⟩
theorem op_notinDc (hu : X.A.units + 64 < cLine) : OpR X (compareOp .NotIn) (fun x y H Q => ∃ a o, y = .ref a ∧ DGet H a x o ∧ Q (.bl (!o.isSome)) H) := by
  intro pins s σ H x y v u Q I rx ry h
  obtain ⟨a, o, rfl, g, q⟩ := h
  cases ry
  exact d_notIn (by omega) I g rx fun s' I' => ⟨.bl (!o.isSome), H, I', rfl, q⟩
/-- what a dict holds at a key -/
theorem dget_of {x y : V} {d : D} {f : Bool} {ks : List Key} {ds : List D} {k : Key} (s : Same G H) (px : PB X.K G H x (.dct f ks ds)) (py : PB X.K G H y d) (e : keyD d = some k) :
    ∃ a o, x = .ref a ∧ DGet H a y o ∧ (∀ d, lkD ks ds k = some d → ∃ v, o = some v ∧ Rp X.K G v d) ∧ (lkD ks ds k = none → o = none) := by
  obtain ⟨a, kvs, rfl, h1, rfl, h3⟩ := px.dct s
  obtain ⟨i1, i2⟩ := lkD_val (k := k) h3
  exact ⟨a, valV kvs k, rfl, .inl ⟨kvs, k, h1, py.key e, rfl⟩, i1, i2⟩
theorem inD_dct {x y : V} {d : D} {f : Bool} {ks : List Key} {ds : List D} {b : Bool} (s : Same G H) (px : PB X.K G H x d) (py : PB X.K G H y (.dct f ks ds)) (h : inD d (.dct f ks ds) = .ok b) :
    ∃ a o, y = .ref a ∧ DGet H a x o ∧ b = o.isSome := by
  have h : (match keyD d with | some k => R.ok (lkD ks ds k).isSome | none => R.bad) = .ok b := by cases d <;> exact h
  cases e : keyD d with
  | none => rw [e] at h; cases h
  | some k =>
    rw [e] at h
    cases h
    obtain ⟨a, o, rfl, g, i1, i2⟩ := dget_of s py px e
    refine ⟨a, o, rfl, g, ?_⟩
    cases q : lkD ks ds k with
    | none => rw [i2 q]; rfl
    | some z => obtain ⟨v, rfl, _⟩ := i1 z q; rfl
def Cop.py : Cop → CmpOp
  | .lt => .Lt | .le => .LtE | .gt => .Gt | .ge => .GtE | .eq => .Eq | .ne => .NotEq | .in_ => .In | .notin => .NotIn | .is_ => .Is | .isnot => .IsNot
theorem inD_inv {G H : Hp} {x y : V} {d e : D} {b : Bool} (hd : ∀ f ks vs, e ≠ .dct f ks vs) (ok : Ok2 G H) (px : PB X.K G H x d) (py : PB X.K G H y e) (h : inD d e = .ok b) :
    ∃ es, Dp X.K H x d.py ∧ (Dp X.K H y (.list es) ∨ Dp X.K H y (.tuple es)) ∧ d.py.plain = true ∧ PyData.plainAll es = true ∧ d.py.depth ≤ 60 ∧ b = es.any fun z => PyData.eqv z d.py := by
  have hx := px.rd ok.s
  have hy := py.rd ok.s
  cases e with
  | lst es =>
    obtain ⟨g1, g2⟩ := guard_ok h
    cases g2
    unfold inOk at g1
    rw [Bool.and_eq_true, Bool.and_eq_true, decide_eq_true_eq] at g1
    refine ⟨_, dp_of hx g1.1.1, .inl ?_, g1.1.1, g1.1.2, g1.2, rfl⟩
    have := dp_of hy (by rw [D.py, PyData.plain]; exact g1.1.2)
    rwa [D.py] at this
  | tup es =>
    obtain ⟨g1, g2⟩ := guard_ok h
    cases g2
    unfold inOk at g1
    rw [Bool.and_eq_true, Bool.and_eq_true, decide_eq_true_eq] at g1
    refine ⟨_, dp_of hx g1.1.1, .inr ?_, g1.1.1, g1.1.2, g1.2, rfl⟩
    have := dp_of hy (by rw [D.py, PyData.plain]; exact g1.1.2)
    rwa [D.py] at this
  | dct f ks vs => exact absurd rfl (hd f ks vs)
  | _ => (cases d <;> cases h)
theorem opD_cmp (hu : X.A.units + 64 < cLine) (o : Cop) : OpD X (compareOp o.py) (cmpD o) := by
  refine opD_of fun G H x y d e z Q ok px py hg q => ?_
  have fin : ∀ {v : V}, Rp X.K G v z → Q v H := fun r => q _ _ _ (Stp.refl ok) r
  have lt4 : ∀ {op : CmpOp} {p : Int → Int → Bool}, OpR X (compareOp op) (rI0 fun i j => .bl (p i j)) → ∀ {i j : Int}, d = .int i → e = .int j → z = .bl (p i j) → ∃ r : R2, OpR X (compareOp op) r ∧ r x y H Q := by
    intro op p hr i j e1 e2 e3
    subst e1 e2 e3
    exact ⟨_, hr, _, _, px.int, py.int, fin (.bl _)⟩
  cases o with
  | lt =>
    cases d with
    | int i =>
      cases e with
      | int j => cases hg; exact lt4 op_lt rfl rfl rfl
      | _ => cases hg
    | _ => cases hg
  | le =>
    cases d with
    | int i =>
      cases e with
      | int j => cases hg; exact lt4 op_le rfl rfl rfl
      | _ => cases hg
    | _ => cases hg
  | gt =>
    cases d with
    | int i =>
      cases e with
      | int j => cases hg; exact lt4 op_gt rfl rfl rfl
      | _ => cases hg
    | _ => cases hg
  | ge =>
    cases d with
    | int i =>
      cases e with
      | int j => cases hg; exact lt4 op_ge rfl rfl rfl
      | _ => cases hg
    | _ => cases hg
  | eq =>
    obtain ⟨b, h1, h2⟩ := bind_okE (show ((eqD d e).bind fun b => .ok (.bl b)) = .ok z by cases d <;> exact hg)
    cases h2
    obtain ⟨g1, g2⟩ := guard_ok h1
    cases g2
    unfold eqOk at g1
    rw [Bool.and_eq_true, Bool.and_eq_true, decide_eq_true_eq] at g1
    exact ⟨_, op_eqP hu, _, _, dp_of (px.rd ok.s) g1.1.1, dp_of (py.rd ok.s) g1.1.2, g1.1.1, g1.1.2, g1.2, fin (.bl _)⟩
  | ne =>
    obtain ⟨b, h1, h2⟩ := bind_okE (show ((eqD d e).bind fun b => .ok (.bl (!b))) = .ok z by cases d <;> exact hg)
    cases h2
    obtain ⟨g1, g2⟩ := guard_ok h1
    cases g2
    unfold eqOk at g1
    rw [Bool.and_eq_true, Bool.and_eq_true, decide_eq_true_eq] at g1
    exact ⟨_, op_neP hu, _, _, dp_of (px.rd ok.s) g1.1.1, dp_of (py.rd ok.s) g1.1.2, g1.1.1, g1.1.2, g1.2, fin (.bl _)⟩
  | in_ =>
    obtain ⟨b, h1, h2⟩ := bind_okE (show ((inD d e).bind fun b => .ok (.bl b)) = .ok z by cases d <;> exact hg)
    cases h2
    by_cases hd : ∃ f ks vs, e = .dct f ks vs
    · obtain ⟨f, ks, vs, rfl⟩ := hd
      obtain ⟨a, o, e1, g, rfl⟩ := inD_dct ok.s px py h1
      exact ⟨_, op_inDc hu, a, o, e1, g, fin (.bl _)⟩
    obtain ⟨es, k1, k2, k3, k4, k5, k6⟩ := inD_inv (fun f ks vs q => hd ⟨f, ks, vs, q⟩) ok px py h1
    subst k6
    exact ⟨_, op_inP hu, _, es, k1, k2, k3, k4, k5, fin (.bl _)⟩
  | notin =>
    obtain ⟨b, h1, h2⟩ := bind_okE (show ((inD d e).bind fun b => .ok (.bl (!b))) = .ok z by cases d <;> exact hg)
    cases h2
    by_cases hd : ∃ f ks vs, e = .dct f ks vs
    · obtain ⟨f, ks, vs, rfl⟩ := hd
      obtain ⟨a, o, e1, g, rfl⟩ := inD_dct ok.s px py h1
      exact ⟨_, op_notinDc hu, a, o, e1, g, fin (.bl _)⟩
    obtain ⟨es, k1, k2, k3, k4, k5, k6⟩ := inD_inv (fun f ks vs q => hd ⟨f, ks, vs, q⟩) ok px py h1
    subst k6
    exact ⟨_, op_notinP hu, _, es, k1, k2, k3, k4, k5, fin (.bl _)⟩
  | is_ =>
    cases d with
    | bl i =>
      cases e with
      | bl j => cases hg; exact ⟨_, op_isB, _, _, px.bl, py.bl, fin (.bl _)⟩
      | _ => cases hg
    | _ => cases hg
  | isnot =>
    cases d with
    | bl i =>
      cases e with
      | bl j => cases hg; exact ⟨_, op_isnotB, _, _, px.bl, py.bl, fin (.bl _)⟩
      | _ => cases hg
    | _ => cases hg
end
end Den
namespace Den
open PySem PySem.Spec PyProof.Rows L2

/-! ### how a value stands behind an expression -/
inductive Kd where | S | T | B
  deriving DecidableEq
def PK (k : Kd) (K : PySem.W.Frag) (G H G' H' : Hp) (v : V) (d : D) : Prop := match k with
  | .S => Rp K G' v d
  | .T => ∃ a o, v = .ref a ∧ H a = none ∧ H' a = some o ∧ G' a = none ∧ RpO K G' o d
  | .B => PB K G' H' v d
theorem PK.shift {k : Kd} {K : PySem.W.Frag} {G H G1 H1 G2 H2 : Hp} {v : V} {d : D} (t : Stp G H G1 H1) (h : PK k K G1 H1 G2 H2 v d) : PK k K G H G2 H2 v d := by
  cases k with
  | S => exact h
  | T =>
    obtain ⟨a, o, e, n, r⟩ := h
    exact ⟨a, o, e, t.h.free n, r⟩
  | B => exact h
theorem PK.toB {k : Kd} {K : PySem.W.Frag} {G H G2 H2 : Hp} {v : V} {d : D} (h : PK k K G H G2 H2 v d) : PB K G2 H2 v d := by
  cases k with
  | S => exact .inl h
  | T =>
    obtain ⟨a, o, e, n, r⟩ := h
    exact .inr ⟨a, o, e, r⟩
  | B => exact h
/-- a value that is not borrowed may be shared -/
theorem PK.toS {k : Kd} {K : PySem.W.Frag} {G H G2 H2 : Hp} {v : V} {d : D} (hk : k ≠ .B) (t : Stp G H G2 H2) (h : PK k K G H G2 H2 v d) : ∃ G3, Stp G H G3 H2 ∧ Rp K G3 v d := by
  cases k with
  | S => exact ⟨G2, t, h⟩
  | T =>
    obtain ⟨a, o, rfl, n, ho, hg, r⟩ := h
    exact ⟨_, t.freeze n hg ho, r.freeze hg⟩
  | B => exact absurd rfl hk

inductive PBL (K : PySem.W.Frag) (G H : Hp) : List V → List D → Prop
  | nil : PBL K G H [] []
  | cons {v : V} {vs : List V} {d : D} {ds : List D} : PB K G H v d → PBL K G H vs ds → PBL K G H (v :: vs) (d :: ds)
theorem PBL.step {K : PySem.W.Frag} {G H G1 H1 : Hp} (t : Stp G H G1 H1) : ∀ {vs : List V} {ds : List D}, PBL K G H vs ds → PBL K G1 H1 vs ds
  | _, _, .nil => .nil
  | _, _, .cons h l => .cons (h.step t) (PBL.step t l)
theorem PBL.len {K : PySem.W.Frag} {G H : Hp} : ∀ {vs : List V} {ds : List D}, PBL K G H vs ds → vs.length = ds.length
  | _, _, .nil => rfl
  | _, _, .cons _ l => by rw [List.length_cons, List.length_cons, l.len]
theorem PBL.rd {K : PySem.W.Frag} {G H : Hp} (s : Same G H) : ∀ {vs : List V} {ds : List D}, PBL K G H vs ds → RpL K H vs ds
  | _, _, .nil => .nil
  | _, _, .cons h l => .cons (h.rd s) (PBL.rd s l)
theorem PBL.of {K : PySem.W.Frag} {G H : Hp} : ∀ {vs : List V} {ds : List D}, RpL K G vs ds → PBL K G H vs ds
  | _, _, .nil => .nil
  | _, _, .cons h l => .cons (.inl h) (PBL.of l)
theorem PBL.one {K : PySem.W.Frag} {G H : Hp} {vs : List V} {d : D} (h : PBL K G H vs [d]) : ∃ v, vs = [v] ∧ PB K G H v d := by
  cases h with
  | cons h l => cases l; exact ⟨_, rfl, h⟩
theorem PBL.two {K : PySem.W.Frag} {G H : Hp} {vs : List V} {d e : D} (h : PBL K G H vs [d, e]) : ∃ v w, vs = [v, w] ∧ PB K G H v d ∧ PB K G H w e := by
  cases h with
  | cons h l =>
    cases l with
    | cons h2 l => cases l; exact ⟨_, _, rfl, h, h2⟩

/-! ### lists of numbers -/
theorem dInts_map : ∀ {ds : List D} {is : List Int}, dInts ds = some is → ds = is.map .int
  | [], is, h => by cases h; rfl
  | .int i :: r, is, h => by
    rw [dInts] at h
    cases e : dInts r with
    | none => rw [e] at h; cases h
    | some js => rw [e] at h; cases h; rw [List.map_cons, ← dInts_map e]
  | .non :: _, _, h => by cases h
  | .bl _ :: _, _, h => by cases h
  | .str _ :: _, _, h => by cases h
  | .tup _ :: _, _, h => by cases h
  | .lst _ :: _, _, h => by cases h
  | .dct _ _ _ :: _, _, h => by cases h
  | .dcT _ _ :: _, _, h => by cases h
@[simp] theorem dInts_of : ∀ is : List Int, dInts (is.map .int) = some is
  | [] => rfl
  | i :: r => by rw [List.map_cons, dInts, dInts_of r]; rfl
theorem dBls_map : ∀ {ds : List D} {is : List Bool}, dBls ds = some is → ds = is.map .bl
  | [], is, h => by cases h; rfl
  | .bl i :: r, is, h => by
    rw [dBls] at h
    cases e : dBls r with
    | none => rw [e] at h; cases h
    | some js => rw [e] at h; cases h; rw [List.map_cons, ← dBls_map e]
  | .non :: _, _, h => by cases h
  | .int _ :: _, _, h => by cases h
  | .str _ :: _, _, h => by cases h
  | .tup _ :: _, _, h => by cases h
  | .lst _ :: _, _, h => by cases h
  | .dct _ _ _ :: _, _, h => by cases h
  | .dcT _ _ :: _, _, h => by cases h
@[simp] theorem dBls_of : ∀ is : List Bool, dBls (is.map .bl) = some is
  | [] => rfl
  | i :: r => by rw [List.map_cons, dBls, dBls_of r]; rfl
theorem someR_ok {α : Type} {o : Option α} {a : α} (h : someR o = .ok a) : o = some a := by
  cases o with
  | none => cases h
  | some b => cases h; rfl
theorem insI_perm (i : Int) : ∀ l : List Int, (insI i l).Perm (i :: l)
  | [] => .refl _
  | j :: r => by
    rw [insI]
    split
    · exact .refl _
    · exact (List.Perm.cons j (insI_perm i r)).trans (List.Perm.swap i j r)
theorem sortI_perm : ∀ l : List Int, (sortI l).Perm l
  | [] => .refl _
  | i :: r => (insI_perm i (sortI r)).trans (List.Perm.cons i (sortI_perm r))
theorem insI_srt (i : Int) : ∀ l : List Int, l.Pairwise (· ≤ ·) → (insI i l).Pairwise (· ≤ ·)
  | [], _ => List.pairwise_singleton _ _
  | j :: r, h => by
    rw [insI]
    rw [List.pairwise_cons] at h
    split
    · rename_i hij
      refine List.pairwise_cons.mpr ⟨fun x hx => ?_, List.pairwise_cons.mpr h⟩
      rcases List.mem_cons.mp hx with e | hx
      · rw [e]; exact hij
      · exact Int.le_trans hij (h.1 x hx)
    · rename_i hij
      refine List.pairwise_cons.mpr ⟨fun x hx => ?_, insI_srt i r h.2⟩
      rcases List.mem_cons.mp ((insI_perm i r).mem_iff.mp hx) with e | hx
      · rw [e]; omega
      · exact h.1 x hx
theorem sortI_srt : ∀ l : List Int, (sortI l).Pairwise (· ≤ ·)
  | [] => .nil
  | i :: r => insI_srt i _ (sortI_srt r)
theorem sorted_uniq : ∀ {l m : List Int}, l.Perm m → l.Pairwise (· ≤ ·) → m.Pairwise (· ≤ ·) → l = m
  | [], m, p, _, _ => by rw [List.nil_perm.mp p]
  | i :: l, [], p, _, _ => by have := p.length_eq; simp at this
  | i :: l, j :: m, p, hl, hm => by
    rw [List.pairwise_cons] at hl hm
    have e : i = j := by
      have h1 : i ∈ j :: m := p.mem_iff.mp (by simp)
      have h2 : j ∈ i :: l := p.mem_iff.mpr (by simp)
      rcases List.mem_cons.mp h1 with e | h1
      · exact e
      · rcases List.mem_cons.mp h2 with e | h2
        · exact e.symm
        · have a := hl.1 j h2
          have b := hm.1 i h1
          omega
    subst e
    rw [sorted_uniq (List.perm_cons i |>.mp p) hl.2 hm.2]
theorem maxI_spec : ∀ (m : Int) (l : List Int), maxI m l ∈ m :: l ∧ ∀ y ∈ m :: l, y ≤ maxI m l
  | m, [] => ⟨by simp [maxI], fun y hy => by simp at hy; rw [hy, maxI]; exact Int.le_refl _⟩
  | m, i :: r => by
    rw [maxI]
    obtain ⟨h1, h2⟩ := maxI_spec (if i > m then i else m) r
    have hle := h2 _ (List.mem_cons_self)
    refine ⟨?_, fun y hy => ?_⟩
    · rcases List.mem_cons.mp h1 with e | h1
      · rw [e]; split <;> simp
      · exact List.mem_cons_of_mem _ (List.mem_cons_of_mem _ h1)
    · rcases List.mem_cons.mp hy with e | hy
      · rw [e]; refine Int.le_trans ?_ hle; split <;> omega
      · rcases List.mem_cons.mp hy with e | hy
        · rw [e]; refine Int.le_trans ?_ hle; split <;> omega
        · exact h2 _ (List.mem_cons_of_mem _ hy)
theorem minI_spec : ∀ (m : Int) (l : List Int), minI m l ∈ m :: l ∧ ∀ y ∈ m :: l, minI m l ≤ y
  | m, [] => ⟨by simp [minI], fun y hy => by simp at hy; rw [hy, minI]; exact Int.le_refl _⟩
  | m, i :: r => by
    rw [minI]
    obtain ⟨h1, h2⟩ := minI_spec (if i < m then i else m) r
    have hle := h2 _ (List.mem_cons_self)
    refine ⟨?_, fun y hy => ?_⟩
    · rcases List.mem_cons.mp h1 with e | h1
      · rw [e]; split <;> simp
      · exact List.mem_cons_of_mem _ (List.mem_cons_of_mem _ h1)
    · rcases List.mem_cons.mp hy with e | hy
      · rw [e]; refine Int.le_trans hle ?_; split <;> omega
      · rcases List.mem_cons.mp hy with e | hy
        · rw [e]; refine Int.le_trans hle ?_; split <;> omega
        · exact h2 _ (List.mem_cons_of_mem _ hy)

/-! ### built-ins -/
def Bi.nm : Bi → Str
  | .len => "len" | .min2 => "min" | .max2 => "max" | .sum => "sum" | .min1 => "min" | .max1 => "max" | .all => "all" | .any => "any"
  | .list => "list" | .tuple => "tuple" | .sorted => "sorted" | .int_ => "int" | .str_ => "str"
def Bi.val : Bi → Value
  | .len => .builtin "len" | .min2 => .builtin "min" | .max2 => .builtin "max" | .sum => .builtin "sum" | .min1 => .builtin "min" | .max1 => .builtin "max" | .all => .builtin "all" | .any => .builtin "any"
  | .list => .type "list" | .tuple => .type "tuple" | .sorted => .builtin "sorted" | .int_ => .type "int" | .str_ => .type "str"
def Bi.kd : Bi → Kd
  | .list => .T | .sorted => .T | _ => .S
section
variable {X : Cx} {G H : Hp}
theorem CallR.ex {f : Value} {ι : Type} {r : ι → List V → Hp → VK → Prop} (h : ∀ i, CallR X f (r i)) : CallR X f (fun xs H Q => ∃ i, r i xs H Q) := by
  intro pins s σ H xs us Q I rv ⟨i, q⟩
  exact h i pins s σ H xs us Q I rv q
def CallD (X : Cx) (f : Value) (k : Kd) (g : List D → R D) : Prop := ∃ r : List V → Hp → VK → Prop, CallR X f r ∧
  ∀ (G H : Hp) (xs : List V) (ds : List D) (z : D) (Q : VK), Ok2 G H → PBL X.K G H xs ds → g ds = .ok z → (∀ v H' G', Stp G H G' H' → PK k X.K G H G' H' v z → Q v H') → r xs H Q
theorem callD_of {f : Value} {k : Kd} {g : List D → R D}
    (h : ∀ (G H : Hp) (xs : List V) (ds : List D) (z : D) (Q : VK), Ok2 G H → PBL X.K G H xs ds → g ds = .ok z → (∀ v H' G', Stp G H G' H' → PK k X.K G H G' H' v z → Q v H') → ∃ r : List V → Hp → VK → Prop, CallR X f r ∧ r xs H Q) : CallD X f k g := by
  refine ⟨fun xs H Q => ∃ r : { r : List V → Hp → VK → Prop // CallR X f r }, r.1 xs H Q, CallR.ex fun i => i.2, fun G H xs ds z Q o px hg q => ?_⟩
  obtain ⟨r, hr, q'⟩ := h G H xs ds z Q o px hg q
  exact ⟨⟨r, hr⟩, q'⟩
theorem newT {o : HO} {Q : VK} {z : D} (ok : Ok2 G H) (w : Owb o) (q : ∀ v H' G', Stp G H G' H' → PK .T X.K G H G' H' v z → Q v H') (r : RpO X.K G o z) : ∀ p, H p = none → Q (.ref p) (upd H p o) :=
  fun p hp => q _ _ _ (Stp.newO ok hp w) ⟨p, o, rfl, hp, upd_same, ok.s.free hp, r⟩
/-- one argument, a list -/
theorem lst1 {xs : List V} {ds : List D} (ok : Ok2 G H) (h : PBL X.K G H xs [.lst ds]) : ∃ a vs, xs = [.ref a] ∧ SqL X.K H a vs ∧ RpL X.K G vs ds := by
  obtain ⟨v, rfl, p⟩ := h.one
  obtain ⟨a, vs, rfl, h1, h2⟩ := p.lst ok.s
  exact ⟨a, vs, rfl, h1, h2⟩
theorem sorted_rp {K : PySem.W.Frag} {l : List (V × D)} (h : ∀ p ∈ l, Rp K G p.1 p.2) : RpL K G (l.map Prod.fst) (l.map Prod.snd) := by
  induction l with
  | nil => exact .nil
  | cons p r ih => exact .cons (h p (.head _)) (ih fun q hq => h q (.tail _ hq))
theorem zip_rp {K : PySem.W.Frag} : ∀ {vs : List V} {ds : List D}, RpL K G vs ds → (∀ p ∈ vs.zip ds, Rp K G p.1 p.2) ∧ (vs.zip ds).map Prod.fst = vs ∧ (vs.zip ds).map Prod.snd = ds
  | _, _, .nil => ⟨(fun _ h => nomatch h), rfl, rfl⟩
  | _, _, .cons (v := v) (vs := vs) (d := d) (ds := ds) r t => by
    obtain ⟨h1, h2, h3⟩ := zip_rp t
    refine ⟨fun p hp => ?_, ?_, ?_⟩
    · rcases List.mem_cons.mp (show p ∈ (v, d) :: vs.zip ds from hp) with e | hp
      · rw [e]; exact r
      · exact h1 p hp
    · show v :: (vs.zip ds).map Prod.fst = _; rw [h2]
    · show d :: (vs.zip ds).map Prod.snd = _; rw [h3]
theorem pyL_map : ∀ l : List D, D.pyL l = l.map D.py
  | [] => rfl
  | d :: r => by rw [D.pyL, List.map_cons, pyL_map r]
theorem sortOk_ok {xs : List D} (h : sortOk xs = true) : PyData.plainAll (D.pyL xs) = true ∧ PySem.W.AllAlike (xs.map D.py) ∧ PySem.W.Sortable (xs.map D.py) ∧ ∀ d ∈ xs, d.py.depth ≤ 60 := by
  unfold sortOk at h
  simp only [Bool.and_eq_true, Bool.or_eq_true, List.all_eq_true, decide_eq_true_eq] at h
  obtain ⟨⟨⟨h1, h2⟩, h3⟩, h4⟩ := h
  refine ⟨h1, fun d hd e he => ?_, ?_, h4⟩
  · obtain ⟨a, ha, rfl⟩ := List.mem_map.mp hd
    obtain ⟨b, hb, rfl⟩ := List.mem_map.mp he
    exact h2 a ha b hb
  · rcases h3 with h3 | h3
    · refine .inl fun d hd => ?_
      obtain ⟨a, ha, rfl⟩ := List.mem_map.mp hd
      have k := h3 a ha
      cases a with
      | tup l =>
        cases l with
        | nil => cases k
        | cons x r => exact ⟨x.py, D.pyL r, by rw [D.py, D.pyL]⟩
      | _ => cases k
    · refine .inr fun d hd => ?_
      obtain ⟨a, ha, rfl⟩ := List.mem_map.mp hd
      have k := h3 a ha
      cases a with
      | int i => rw [D.py]; exact ⟨(fun q => nomatch q), (fun _ q => nomatch q)⟩
      | str i => rw [D.py]; exact ⟨(fun q => nomatch q), (fun _ q => nomatch q)⟩
      | _ => cases k
theorem kD_rp {K : PySem.W.Frag} : ∀ ks : List Key, RpL K G (ks.map kV) (ks.map kD)
  | [] => .nil
  | .inl i :: r => .cons (.int i) (kD_rp r)
  | .inr i :: r => .cons (.str i) (kD_rp r)
theorem tup_at (ok : Ok2 G H) {b : Addr} {xs : List V} (e : H b = some (.tup xs)) : G b = some (.tup xs) := by
  cases h : G b with
  | none => exact (ok.z b _ e h).elim
  | some o => have := ok.s _ _ h; rw [e] at this; cases this; rfl
theorem keys_rp {K : PySem.W.Frag} (ok : Ok2 G H) : ∀ {kvs : List (List Key × V)} {bs : List Addr}, IsKeys H kvs bs → RpL K G (bs.map V.ref) ((kvs.map (·.1)).map fun k => D.tup (k.map kD))
  | _, _, .nil => .nil
  | _, _, .cons h t => .cons (.tup (SqT.of (tup_at ok h)) (kD_rp _)) (keys_rp ok t)
theorem callD_bi (hc : X.calm = true) (hu : X.A.units + 64 < cLine) (b : Bi) : CallD X b.val b.kd (biD b) := by
  refine callD_of fun G H xs ds z Q ok px hg q => ?_
  cases b with
  | len =>
    have fin : ∀ {v : V}, Rp X.K G v z → Q v H := fun r => q _ _ _ (Stp.refl ok) r
    match ds, hg with
    | [.lst es], hg =>
      cases hg
      obtain ⟨a, vs, rfl, h1, h2⟩ := lst1 ok px
      exact ⟨_, call_len_seq, a, vs, rfl, .inl h1, by rw [h2.len]; exact fin (.int _)⟩
    | [.tup es], hg =>
      cases hg
      obtain ⟨v, rfl, p⟩ := px.one
      obtain ⟨a, vs, rfl, h1, h2⟩ := p.tup
      exact ⟨_, call_len_seq, a, vs, rfl, .inr (seqT ok.s h1), by rw [h2.len]; exact fin (.int _)⟩
    | [.str s], hg =>
      obtain ⟨g1, g2⟩ := guard_ok hg
      cases g2
      obtain ⟨v, rfl, p⟩ := px.one
      rw [p.str]
      exact ⟨_, call_len_str, s, rfl, by rw [sizeLn]; exact of_decide_eq_true g1, fin (.int _)⟩
  | min2 =>
    match ds, hg with
    | [.int i, .int j], hg =>
      cases hg
      obtain ⟨v, w, rfl, p1, p2⟩ := px.two
      rw [p1.int, p2.int]
      exact ⟨_, call_min2 hc, i, j, rfl, q _ _ _ (Stp.refl ok) (.int _)⟩
  | max2 =>
    match ds, hg with
    | [.int i, .int j], hg =>
      cases hg
      obtain ⟨v, w, rfl, p1, p2⟩ := px.two
      rw [p1.int, p2.int]
      exact ⟨_, call_max2 hc, i, j, rfl, q _ _ _ (Stp.refl ok) (.int _)⟩
  | sum =>
    match ds, hg with
    | [.lst es], hg =>
      obtain ⟨is, h1, h2⟩ := bind_okE hg
      cases h2
      obtain rfl := dInts_map (someR_ok h1)
      obtain ⟨a, vs, rfl, h3, h4⟩ := lst1 ok px
      obtain rfl := h4.ints
      exact ⟨_, cr_sum hc, a, is, rfl, h3, q _ _ _ (Stp.refl ok) (.int _)⟩
    | [.tup es], hg =>
      obtain ⟨is, h1, h2⟩ := bind_okE hg
      cases h2
      obtain rfl := dInts_map (someR_ok h1)
      obtain ⟨v, rfl, p⟩ := px.one
      obtain ⟨a, vs, rfl, h3, h4⟩ := p.tup
      obtain rfl := h4.ints
      exact ⟨_, cr_sumT hc, a, is, rfl, seqT ok.s h3, q _ _ _ (Stp.refl ok) (.int _)⟩
  | min1 =>
    match ds, hg with
    | [.lst es], hg =>
      obtain ⟨is, h1, h2⟩ := bind_okE hg
      obtain rfl := dInts_map (someR_ok h1)
      obtain ⟨a, vs, rfl, h3, h4⟩ := lst1 ok px
      obtain rfl := h4.ints
      cases is with
      | nil => cases h2
      | cons m r =>
        cases h2
        refine ⟨_, cr_min hc, a, m :: r, rfl, h3, by simp, fun k hm hle => ?_⟩
        obtain ⟨k1, k2⟩ := minI_spec m r
        have e : k = minI m r := Int.le_antisymm (hle _ k1) (k2 _ hm)
        rw [e]
        exact q _ _ _ (Stp.refl ok) (.int _)
  | max1 =>
    match ds, hg with
    | [.lst es], hg =>
      obtain ⟨is, h1, h2⟩ := bind_okE hg
      obtain rfl := dInts_map (someR_ok h1)
      obtain ⟨a, vs, rfl, h3, h4⟩ := lst1 ok px
      obtain rfl := h4.ints
      cases is with
      | nil => cases h2
      | cons m r =>
        cases h2
        refine ⟨_, cr_max hc, a, m :: r, rfl, h3, by simp, fun k hm hle => ?_⟩
        obtain ⟨k1, k2⟩ := maxI_spec m r
        have e : k = maxI m r := Int.le_antisymm (k2 _ hm) (hle _ k1)
        rw [e]
        exact q _ _ _ (Stp.refl ok) (.int _)
  | all =>
    match ds, hg with
    | [.lst es], hg =>
      obtain ⟨is, h1, h2⟩ := bind_okE hg
      cases h2
      obtain rfl := dBls_map (someR_ok h1)
      obtain ⟨a, vs, rfl, h3, h4⟩ := lst1 ok px
      obtain rfl := h4.bls
      exact ⟨_, cr_all hc, a, is, rfl, h3, q _ _ _ (Stp.refl ok) (.bl _)⟩
  | any =>
    match ds, hg with
    | [.lst es], hg =>
      obtain ⟨is, h1, h2⟩ := bind_okE hg
      cases h2
      obtain rfl := dBls_map (someR_ok h1)
      obtain ⟨a, vs, rfl, h3, h4⟩ := lst1 ok px
      obtain rfl := h4.bls
      exact ⟨_, cr_any hc, a, is, rfl, h3, q _ _ _ (Stp.refl ok) (.bl _)⟩
  | list =>
    match ds, hg with
    | [.lst es], hg =>
      cases hg
      obtain ⟨a, vs, rfl, h1, h2⟩ := lst1 ok px
      exact ⟨_, call_list_of, a, vs, rfl, .inl h1, newT ok (o := .lst _) trivial q (.lst h2)⟩
    | [.tup es], hg =>
      cases hg
      obtain ⟨v, rfl, p⟩ := px.one
      obtain ⟨a, vs, rfl, h1, h2⟩ := p.tup
      exact ⟨_, call_list_of, a, vs, rfl, .inr (seqT ok.s h1), newT ok (o := .lst _) trivial q (.lst h2)⟩
    | [.dcT ks es], hg =>
      cases hg
      obtain ⟨v, rfl, p⟩ := px.one
      obtain ⟨a, kvs, rfl, h1, rfl, h2⟩ := p.dcT ok.s
      exact ⟨_, call_list_dT hc, a, kvs, rfl, h1, fun p bs hp ik => newT ok (o := .lst _) trivial q (.lst (keys_rp ok ik)) p hp⟩
  | tuple =>
    match ds, hg with
    | [.lst es], hg =>
      cases hg
      obtain ⟨a, vs, rfl, h1, h2⟩ := lst1 ok px
      exact ⟨_, call_tuple_of, a, vs, rfl, .inl ⟨h1, newS ok q fun p hp => .tup (SqT.of upd_same) (h2.mono (same_upd hp))⟩⟩
    | [.tup es], hg =>
      cases hg
      obtain ⟨v, rfl, p⟩ := px.one
      obtain ⟨a, vs, rfl, h1, h2⟩ := p.tup
      exact ⟨_, call_tuple_of, a, vs, rfl, .inr ⟨seqT ok.s h1, q _ _ _ (Stp.refl ok) (.tup h1 h2)⟩⟩
  | sorted =>
    match ds, hg with
    | [.lst es], hg =>
      obtain ⟨a, vs, rfl, h3, h4⟩ := lst1 ok px
      cases he : dInts es with
      | some is =>
        simp only [biD, he] at hg
        cases hg
        obtain rfl := dInts_map he
        obtain rfl := h4.ints
        refine ⟨_, cr_sortedI, a, is, rfl, h3, fun ns' p pm sr hp => ?_⟩
        obtain rfl := sorted_uniq (pm.trans (sortI_perm is).symm) sr (sortI_srt is)
        exact newT ok (o := .lst _) trivial q (.lst (RpL.ofInts _)) p hp
      | none =>
        simp only [biD, he] at hg
        obtain ⟨g1, g2⟩ := guard_ok hg
        cases g2
        obtain ⟨o1, o2, o3, o4⟩ := sortOk_ok g1
        obtain ⟨z1, z2, z3⟩ := zip_rp h4
        have hm : ∀ p ∈ (vs.zip es).mergeSort (PySem.W.dataLe false fun b : V × D => b.2.py), Rp X.K G p.1 p.2 := fun p hp => z1 p ((List.mergeSort_perm _ _).mem_iff.mp hp)
        have m1 : ((vs.zip es).mergeSort (PySem.W.dataLe false fun b : V × D => b.2.py)).map Prod.snd = es.mergeSort (PySem.W.dataLe false D.py) := by
          have := List.map_mergeSort (r := PySem.W.dataLe false fun b : V × D => b.2.py) (s := PySem.W.dataLe false D.py) (f := Prod.snd) (l := vs.zip es) (fun _ _ _ _ => rfl)
          rw [this, z3]
        have m2 : (((vs.zip es).map fun p => (p.1, p.2.py)).mergeSort (PySem.W.dataLe false Prod.snd)).map Prod.fst = ((vs.zip es).mergeSort (PySem.W.dataLe false fun b : V × D => b.2.py)).map Prod.fst := by
          have := List.map_mergeSort (r := PySem.W.dataLe false fun b : V × D => b.2.py) (s := PySem.W.dataLe false (Prod.snd : V × PyData → PyData)) (f := fun p : V × D => (p.1, p.2.py)) (l := vs.zip es) (fun _ _ _ _ => rfl)
          rw [← this, List.map_map]; rfl
        have n1 : ((vs.zip es).map fun p => (p.1, p.2.py)).map Prod.fst = vs := by rw [List.map_map]; exact z2
        have n2 : ((vs.zip es).map fun p => (p.1, p.2.py)).map Prod.snd = es.map D.py := by
          rw [List.map_map]
          show (vs.zip es).map (D.py ∘ Prod.snd) = _
          rw [← List.map_map, z3]
        refine ⟨_, cr_sortedD hu, a, (vs.zip es).map fun p => (p.1, p.2.py), rfl, by rw [n1]; exact h3, by rw [n1, n2, ← pyL_map]; exact dpL_of (h4.mono ok.s) o1, by rw [n2]; exact o2, by rw [n2]; exact o3, fun b hb => ?_, ?_⟩
        · obtain ⟨p, hp, rfl⟩ := List.mem_map.mp hb
          exact o4 p.2 (List.of_mem_zip (a := p.1) (b := p.2) hp).2
        · rw [m2]
          refine newT ok (o := .lst _) trivial q (.lst ?_)
          rw [← m1]
          exact sorted_rp hm
  | int_ =>
    match ds, hg with
    | [.int i], hg =>
      cases hg
      obtain ⟨v, rfl, p⟩ := px.one
      rw [p.int]
      exact ⟨_, call_int1, .inl ⟨i, rfl, q _ _ _ (Stp.refl ok) (.int _)⟩⟩
    | [.bl i], hg =>
      cases hg
      obtain ⟨v, rfl, p⟩ := px.one
      rw [p.bl]
      exact ⟨_, call_int1, .inr ⟨i, rfl, q _ _ _ (Stp.refl ok) (.int _)⟩⟩
  | str_ =>
    match ds, hg with
    | [.int i], hg =>
      obtain ⟨g1, g2⟩ := guard_ok hg
      cases g2
      obtain ⟨v, rfl, p⟩ := px.one
      rw [p.int]
      exact ⟨_, call_str_int, i, rfl, of_decide_eq_true g1, q _ _ _ (Stp.refl ok) (.str _)⟩

/-! ### subscripts, slices, isinstance -/
theorem IxR.ex {ι : Type} {r : ι → R2} (h : ∀ i, IxR X (r i)) : IxR X (fun x y H Q => ∃ i, r i x y H Q) := by
  intro va sl pins s σ H x y v u Q I rx ry ⟨i, q⟩ hs
  exact h i va sl pins s σ H x y v u Q I rx ry q hs
theorem atI_map {vs : List V} {ds : List D} {i : Int} {d : D} {K : PySem.W.Frag} (l : RpL K G vs ds) (h : atI ds i = some d) : ∃ v, atI vs i = some v ∧ Rp K G v d := by
  unfold atI at h ⊢
  rw [l.len]
  cases e : ixN ds.length i with
  | none => rw [e] at h; cases h
  | some j =>
    rw [e] at h
    exact l.get h
theorem ix_dct (hu : X.A.units + 64 < cLine) : IxR X (fun x y H Q => ∃ a v, x = .ref a ∧ DGet H a y (some v) ∧ Q v H) := by
  intro value slice pins s σ H x y v u Q I rx ry h hs
  obtain ⟨a, z, rfl, g, q⟩ := h
  cases rx
  have hT := dict_typeIs I g
  unfold subscriptTail
  refine wpAny_bind ?_
  rw [getitemInPython_of_ne hT.not_modules]
  refine wpAny_bind (wpAny_specialOf hT PySem.F.slot_dict_getitem.lookup ?_)
  have fin : wpAny (model X.prog X.w) X.A (subscripted slice false (.ref a) u) (fun r s₃ => wpAny (model X.prog X.w) X.A (letTemporaryGo value (.ref a) r >>= fun _ => pure r) (EP X pins σ Q) X.xe s₃) X.xe s := by
    rw [hs]
    exact wpAny_operating (wpAny_mono (d_getItem (E := X.xe) (by omega) I g ry (Q := fun r s' => EP X pins σ Q r s') fun w' s' I' rw' => ⟨z, H, I', rw', q⟩) (fun r s₃ h₃ => wpAny_bind (wpAny_letTemporaryGo (wpAny_pure h₃))) fun _ _ x => x)
  first
    | exact wpAny_pure (wpAny_bind fin)
    | exact wpAny_bind (wpAny_pure (wpAny_bind fin))
    | exact wpAny_bind fin
theorem ixD_ok (hu : X.A.units + 64 < cLine) : ∃ r : R2, IxR X r ∧ ∀ (G H : Hp) (x y : V) (d e z : D) (Q : VK), Ok2 G H → PB X.K G H x d → PB X.K G H y e → ixD d e = .ok z → (∀ v H' G', Stp G H G' H' → Rp X.K G' v z → Q v H') → r x y H Q := by
  refine ⟨fun x y H Q => ∃ r : { r : R2 // IxR X r }, r.1 x y H Q, IxR.ex fun i => i.2, fun G H x y d e z Q ok px py hg q => ?_⟩
  have fin : ∀ {v : V}, Rp X.K G v z → Q v H := fun r => q _ _ _ (Stp.refl ok) r
  match d, e, hg with
  | .lst ds, .int i, hg =>
    cases h : atI ds i with
    | none => simp only [ixD, h] at hg; cases hg
    | some t =>
      simp only [ixD, h] at hg; cases hg
      obtain ⟨a, vs, rfl, h1, h2⟩ := px.lst ok.s
      obtain ⟨v, h3, h4⟩ := atI_map h2 h
      exact ⟨⟨_, ix_list⟩, a, vs, i, v, rfl, py.int, h1, h3, fin h4⟩
  | .tup ds, .int i, hg =>
    cases h : atI ds i with
    | none => simp only [ixD, h] at hg; cases hg
    | some t =>
      simp only [ixD, h] at hg; cases hg
      obtain ⟨a, vs, rfl, h1, h2⟩ := px.tup
      obtain ⟨v, h3, h4⟩ := atI_map h2 h
      exact ⟨⟨_, ix_tup⟩, a, vs, i, v, rfl, py.int, seqT ok.s h1, h3, fin h4⟩
  | .str s, .int i, hg =>
    obtain ⟨g1, g2⟩ := guard_ok hg
    cases h : atI s.cps.toList i with
    | none => rw [h] at g2; cases g2
    | some t =>
      rw [h] at g2; cases g2
      exact ⟨⟨_, ix_str⟩, s, i, t, px.str, py.int, by rw [sizeLn]; exact of_decide_eq_true g1, h, fin (.str _)⟩
  | .dct f ks ds, d, hg =>
    cases h : (keyD d).bind (lkD ks ds) with
    | none => rw [ixD, h] at hg; cases hg
    | some t =>
      rw [ixD, h] at hg; cases hg
      obtain ⟨k, k1, k2⟩ := Option.bind_eq_some_iff.mp h
      obtain ⟨a, o, rfl, g, i1, _⟩ := dget_of ok.s px py k1
      obtain ⟨v, rfl, r⟩ := i1 _ k2
      exact ⟨⟨_, ix_dct hu⟩, a, v, rfl, g, fin r⟩
theorem SlR.ex {ι : Type} {r : ι → V → Option Int → Option Int → Hp → VK → Prop} (h : ∀ i, SlR X (r i)) : SlR X (fun x lo hi H Q => ∃ i, r i x lo hi H Q) := by
  intro pins s σ H x v vl vu lo hi sl Q I rx hs pl pu ⟨i, q⟩
  exact h i pins s σ H x v vl vu lo hi sl Q I rx hs pl pu q
theorem cutL_rp {K : PySem.W.Frag} {vs : List V} {ds : List D} (l : RpL K G vs ds) (lo hi : Option Int) : RpL K G (cutV vs lo hi) (cutL ds lo hi) := by
  unfold cutV cutL
  rw [l.len]
  exact (l.drop _).take _
theorem slD_ok : ∃ r : V → Option Int → Option Int → Hp → VK → Prop, SlR X r ∧ ∀ (G H : Hp) (x : V) (lo hi : Option Int) (d z : D) (Q : VK), Ok2 G H → PB X.K G H x d → slD d lo hi = .ok z → (∀ v H' G', Stp G H G' H' → Rp X.K G' v z → Q v H') → r x lo hi H Q := by
  refine ⟨fun x lo hi H Q => ∃ r : { r : V → Option Int → Option Int → Hp → VK → Prop // SlR X r }, r.1 x lo hi H Q, SlR.ex fun i => i.2, fun G H x lo hi d z Q ok px hg q => ?_⟩
  match d, hg with
  | .lst ds, hg =>
    cases hg
    obtain ⟨a, vs, rfl, h1, h2⟩ := px.lst ok.s
    exact ⟨⟨_, sl_list⟩, a, vs, rfl, h1, newS ok q fun p hp => .lst (SqL.of upd_same) ((cutL_rp h2 lo hi).mono (same_upd hp))⟩
  | .tup ds, hg =>
    cases hg
    obtain ⟨a, vs, rfl, h1, h2⟩ := px.tup
    refine ⟨⟨_, sl_tupA⟩, a, vs, rfl, seqT ok.s h1, fun hw => ?_, fun _ => newS ok q fun p hp => .tup (SqT.of upd_same) ((cutL_rp h2 lo hi).mono (same_upd hp))⟩
    refine q _ _ _ (Stp.refl ok) ?_
    have e : cutL ds lo hi = ds := by
      have hl := h2.len
      unfold cutL
      rw [← hl, hw.1, hw.2]
      simp [hl]
    rw [e]
    exact .tup h1 h2
def Ty.nm : Ty → Str
  | .int => "int" | .bool => "bool" | .str => "str" | .tuple => "tuple" | .list => "list"
def Ty.id : Ty → String
  | .int => "int" | .bool => "bool" | .str => "str" | .tuple => "tuple" | .list => "list"
/-- the type of a datum, None for what is not asked -/
def tyD : D → String
  | .non => "NoneType" | .bl _ => "bool" | .int _ => "int" | .str _ => "str" | .tup _ => "tuple" | .lst _ => "list" | .dct _ _ _ => "dict" | .dcT _ _ => "dict"
theorem ty_of {v : V} {d : D} {K : PySem.W.Frag} (h : Rp K H v d) (hd : (∀ f ks vs, d ≠ .dct f ks vs) ∧ ∀ ks vs, d ≠ .dcT ks vs) : TyX K H v (.type (tyD d)) := by
  cases h with
  | non => exact .base .non
  | bl b => exact .base (.bl b)
  | int b => exact .base (.int b)
  | str b => exact .base (.str b)
  | lst h l =>
    rcases h with (h | ⟨o, h⟩) | ⟨o, its, n, h1, h2, h3⟩
    · exact .base (.lst h)
    · exact .base (.frz h)
    · exact .kList h1 h2
  | tup h l =>
    rcases h with (h | ⟨o, h⟩) | ⟨o, its, n, h1, h2, h3⟩
    · exact .base (.tup h)
    · exact .fTuple h
    · exact .kTuple h1 h2
  | dct h l => exact absurd rfl (hd.1 _ _ _)
  | dctL h l => exact absurd rfl (hd.1 _ _ _)
  | dcT h l => exact absurd rfl (hd.2 _ _)
end
end Den
namespace Den
open PySem PySem.Spec PyProof.Rows L2

/-! ### the text against the terms -/
structure Tbl where
  N : List Str
  own : List Nat
  fns : List (Nat × Str × Nat × Bool)
  cs : List (Str × Int)
  bt : List Str
def Tbl.isOwn (T : Tbl) (i : Nat) : Bool := T.own.contains i
def visB (sc : Scope) (x : Str) : Bool := match sc.names.lookup x with
  | some .local => true
  | some .cell => true
  | some .free => true
  | _ => false
/-- a name that may be stored: a local one; in a def's own body (d) one that is captured too -/
def locB (d : Bool) (sc : Scope) (x : Str) : Bool := match sc.names.lookup x with
  | some .local => true
  | some .cell => d
  | _ => false
def glB (sc : Scope) (x : Str) : Bool := match sc.names.lookup x with
  | some .globalImplicit => true
  | _ => false
def nmB (x : Str) : Bool := !(x == ("__debug__" : Str)) && !(x == ("__classdict__" : Str)) && decide (x ≠ "__name__")
def plE : Expr → Bool
  | .Starred _ _ => false
  | .Set _ _ _ => false
  | .Slice _ _ _ _ => false
  | _ => true
def blt (T : Tbl) (sc : Scope) (x : Str) : Bool := glB sc x && nmB x && decide (x ∈ T.bt)
def kd (T : Tbl) : Ex → Kd
  | .var i => if T.isOwn i then .B else .S
  | .lst _ => .T
  | .comp _ _ _ _ => .T
  | .compIf _ _ _ _ _ => .T
  | .sset _ => .T
  | .lzip _ => .T
  | .lrng _ _ => .T
  | .lrev _ => .T
  | .cat _ _ => .T
  | .call0 f => match T.fns.lookup f with
    | some (_, _, true) => .T
    | _ => .S
  | .bi b _ => b.kd
  | .dnew _ => .T
  | .repL _ _ => .T
  | .call f _ => match T.fns.lookup f with
    | some (_, _, true) => .T
    | _ => .S
  | _ => .S
def nB (T : Tbl) (x : Ex) : Bool := match kd T x with
  | .B => false
  | _ => true
def mNames (T : Tbl) (d : Bool) (sc : Scope) : List Nat → List Expr → Bool
  | [], [] => true
  | i :: is, .Name x _ :: es => decide (T.N[i]? = some x) && locB d sc x && !T.isOwn i && mNames T d sc is es
  | _, _ => false
def mTg (T : Tbl) (d : Bool) (sc : Scope) : Tg → Expr → Bool
  | .one i, .Name x _ => decide (T.N[i]? = some x) && locB d sc x && !T.isOwn i
  | .many is, .Tuple es _ _ => mNames T d sc is es
  | .nest is j, .Tuple [.Tuple es _ _, .Name x _] _ _ => mNames T d sc is es && decide (T.N[j]? = some x) && locB d sc x && !T.isOwn j
  | _, _ => false
def ownP (T : Tbl) (own : List Nat) : List (Str × Nat) := own.map fun i => (T.N.getD i "", i)
def tgIn (own : List Nat) : Tg → Bool
  | .one i => own.contains i
  | .many is => is.all own.contains
  | .nest is j => is.all own.contains && own.contains j
/-- no conditional expression (as a test it is read in its own way) -/
def ntI : Expr → Bool
  | .IfExp _ _ _ _ => false
  | _ => true
def seeB (T : Tbl) (sc : Scope) (i : Nat) (x : Str) : Bool := decide (T.N[i]? = some x) && visB sc x && nmB x
def isTup : Expr → Bool
  | .Tuple _ _ _ => true
  | _ => false
mutual
def mE (T : Tbl) : Ex → Scope → Expr → Bool
  | .var i, sc, e => match e with
    | .Name x _ => decide (T.N[i]? = some x) && visB sc x && nmB x
    | _ => false
  | .cst d, _, e => match e with
    | .Constant c _ _ => match d, c with
      | .non, .none => true
      | .bl b, .bool k => decide (b = k)
      | .int i, .int j => decide (i = j)
      | .str s, .str t => decide (s = t)
      | _, _ => false
    | _ => false
  | .gint y i, sc, e => match e with
    | .Name x _ => decide (x = y) && glB sc x && nmB x && decide ((x, i) ∈ T.cs)
    | _ => false
  | .bin o a b, sc, e => match e with
    | .BinOp l op r _ => decide (op = o.py) && mE T a sc l && mE T b sc r
    | _ => false
  | .neg a, sc, e => match e with
    | .UnaryOp op l _ => decide (op = .USub) && mE T a sc l
    | _ => false
  | .cmp o a b, sc, e => match e with
    | .Compare l [op] [r] _ => decide (op = o.py) && mE T a sc l && mE T b sc r && !behindInMarks op r
    | _ => false
  | .isN a, sc, e => match e with
    | .Compare l [op] [.Constant .none _ _] _ => decide (op = .Is) && mE T a sc l
    | _ => false
  | .notN a, sc, e => match e with
    | .Compare l [op] [.Constant .none _ _] _ => decide (op = .IsNot) && mE T a sc l
    | _ => false
  | .chain o o' a b c, sc, e => match e with
    | .Compare l [op, op'] [m, r] _ => decide (op = o.py) && decide (op' = o'.py) && mE T a sc l && mE T b sc m && mE T c sc r && !lastMarks [op, op'] [m, r]
    | _ => false
  | .and_ a b, sc, e => match e with
    | .BoolOp .And (x :: y :: r) pos => mE T a sc x && (match r with | [] => mE T b sc y | z :: r' => mE T b sc (.BoolOp .And (y :: z :: r') pos)) && ntI x && ntI y
    | _ => false
  | .or_ a b, sc, e => match e with
    | .BoolOp .Or (x :: y :: r) pos => mE T a sc x && (match r with | [] => mE T b sc y | z :: r' => mE T b sc (.BoolOp .Or (y :: z :: r') pos)) && ntI x && ntI y
    | _ => false
  | .not_ a, sc, e => match e with
    | .UnaryOp op l _ => decide (op = .Not) && mE T a sc l && ntI l
    | _ => false
  | .ite c a b, sc, e => match e with
    | .IfExp t l r _ => mE T c sc t && ntI t && mE T a sc l && mE T b sc r && nB T a && nB T b
    | _ => false
  | .tup es, sc, e => match e with
    | .Tuple l _ _ => mEs T true es sc l && decide (l.length ≤ Line)
    | _ => false
  | .lst es, sc, e => match e with
    | .List l _ => mEs T true es sc l && decide (l.length ≤ Line)
    | _ => false
  | .ix a b, sc, e => match e with
    | .Subscript l r _ => mE T a sc l && mE T b sc r && plE r
    | _ => false
  | .slF a lo, sc, e => match e with
    | .Subscript l (.Slice (some r) none none _) _ => mE T a sc l && mE T lo sc r
    | _ => false
  | .slT a hi, sc, e => match e with
    | .Subscript l (.Slice none (some r) none _) _ => mE T a sc l && mE T hi sc r
    | _ => false
  | .slB a lo hi, sc, e => match e with
    | .Subscript l (.Slice (some m) (some r) none _) _ => mE T a sc l && mE T lo sc m && mE T hi sc r
    | _ => false
  | .call f es, sc, e => match e with
    | .Call (.Name x _) (l0 :: l1) [] _ => (match T.fns.lookup f with | some (y, n, _) => decide (x = y) && decide ((l0 :: l1).length = n) | none => false) && glB sc x && nmB x && mEs T true es sc (l0 :: l1)
    | _ => false
  | .callB f es, sc, e => match e with
    | .Call (.Name x _) (l0 :: l1) [] _ => (match T.fns.lookup f with | some (y, n, _) => decide (x = y) && decide ((l0 :: l1).length = n) | none => false) && glB sc x && nmB x && mEs T false es sc (l0 :: l1)
    | _ => false
  | .bi b es, sc, e => match e with
    | .Call (.Name x _) (l :: ls) [] _ => decide (x = b.nm) && blt T sc x && mEs T false es sc (l :: ls)
    | _ => false
  | .isi a t, sc, e => match e with
    | .Call (.Name x _) [l, .Name y _] [] _ => decide (x = "isinstance") && blt T sc x && decide (y = t.nm) && blt T sc y && mE T a sc l && plE l
    | _ => false
  | .comp it tg own a, sc, e => match e with
    | .ListComp l [⟨g, i, ifs, k⟩] scope _ => (match ifs with | [] => true | _ => false) && decide (k = 0) && mI T it sc g i && plE i && mTg T false (relS scope sc) tg g && tgIn own tg && own.all (fun i => !T.isOwn i) && blkC T.N sc scope (ownP T own) &&
        mE T a (relS scope sc) l && nB T a
    | _ => false
  | .compIf it tg own c a, sc, e => match e with
    | .ListComp l [⟨g, i, ifs, k⟩] scope _ => (match ifs with | [t] => mE T c (relS scope sc) t && ntI t | _ => false) && decide (k = 0) && mI T it sc g i && plE i && mTg T false (relS scope sc) tg g && tgIn own tg && own.all (fun i => !T.isOwn i) && blkC T.N sc scope (ownP T own) &&
        mE T a (relS scope sc) l && nB T a
    | _ => false
  | .sset a, sc, e => match e with
    | .Call (.Name x _) [.Call (.Name y _) [l] [] _] [] _ => decide (x = "sorted") && blt T sc x && decide (y = "set") && blt T sc y && mE T a sc l && plE l
    | _ => false
  | .lzip es, sc, e => match e with
    | .Call (.Name x _) [.Call (.Name y _) [l1, l2, l3, l4] [] _] [] _ => decide (x = "list") && blt T sc x && decide (y = "zip") && blt T sc y && mEs T false es sc [l1, l2, l3, l4]
    | _ => false
  | .lrng a b, sc, e => match e with
    | .Call (.Name x _) [.Call (.Name y _) [l1, l2] [] _] [] _ => decide (x = "list") && blt T sc x && decide (y = "range") && blt T sc y && mE T a sc l1 && plE l1 && mE T b sc l2 && plE l2
    | _ => false
  | .lrev a, sc, e => match e with
    | .Call (.Name x _) [.Call (.Name y _) [l] [] _] [] _ => decide (x = "list") && blt T sc x && decide (y = "reversed") && blt T sc y && mE T a sc l && plE l
    | _ => false
  | .dmin mx a, sc, e => match e with
    | .Call (.Name x _) [l] [⟨some k, .Constant .none _ _, _⟩] _ => decide (x = if mx then "max" else "min") && blt T sc x && decide (k = "default") && mE T a sc l && plE l
    | _ => false
  | .cat a b, sc, e => match e with
    | .BinOp l op r _ => decide (op = .Add) && mE T a sc l && mE T b sc r
    | _ => false
  | .call0 f, sc, e => match e with
    | .Call (.Name x _) [] [] _ => (match T.fns.lookup f with | some (y, n, _) => decide (x = y) && decide (n = 0) | none => false) && glB sc x && nmB x
    | _ => false
  | .dnew _, sc, e => match e with
    | .Dict [] [] _ => true
    | _ => false
  | .repL es n, sc, e => match e with
    | .BinOp (.List l _) op (.Constant (.int i) _ _) _ => decide (op = .Mult) && decide (i = (n : Int)) && mEs T true es sc l && decide (l.length ≤ Line)
    | _ => false
  | .dlit k v, sc, e => match e with
    | .Dict [some l] [r] _ => mE T k sc l && mE T v sc r && nB T v
    | _ => false
  | .dget1 i k, sc, e => match e with
    | .Call (.Attribute (.Name x _) m ap) [l] [] cp => decide (m = "get") && (ap.endLine == cp.line) && seeB T sc i x && mE T k sc l && plE l
    | _ => false
  | .dget2 i k z, sc, e => match e with
    | .Call (.Attribute (.Name x _) m ap) [l, r] [] cp => decide (m = "get") && (ap.endLine == cp.line) && seeB T sc i x && mE T k sc l && plE l && mE T z sc r && plE r && nB T z
    | _ => false
def mEs (T : Tbl) (s : Bool) : Exs → Scope → List Expr → Bool
  | .nil, _, l => match l with
    | [] => true
    | _ => false
  | .cons a r, sc, l => match l with
    | e :: es => mE T a sc e && plE e && (!s || nB T a) && mEs T s r sc es
    | _ => false
def mI (T : Tbl) : Itr → Scope → Expr → Expr → Bool
  | .seq a, sc, _, e => mE T a sc e
  | .rng1 a, sc, _, e => match e with
    | .Call (.Name x _) [l] [] _ => decide (x = "range") && blt T sc x && mE T a sc l && plE l
    | _ => false
  | .rng2 a b, sc, _, e => match e with
    | .Call (.Name x _) [l, m] [] _ => decide (x = "range") && blt T sc x && mE T a sc l && plE l && mE T b sc m && plE m
    | _ => false
  | .rng3 a b c, sc, _, e => match e with
    | .Call (.Name x _) [l, m, r] [] _ => decide (x = "range") && blt T sc x && mE T a sc l && plE l && mE T b sc m && plE m && mE T c sc r && plE r
    | _ => false
  | .enum a, sc, g, e => match e with
    | .Call (.Name x _) [l] [] _ => decide (x = "enumerate") && blt T sc x && mE T a sc l && plE l && isTup g
    | _ => false
  | .zip a b, sc, g, e => match e with
    | .Call (.Name x _) [l, m] [] _ => decide (x = "zip") && blt T sc x && mE T a sc l && plE l && mE T b sc m && plE m && isTup g
    | _ => false
  | .rev a, sc, _, e => match e with
    | .Call (.Name x _) [l] [] _ => decide (x = "reversed") && blt T sc x && mE T a sc l && plE l
    | _ => false
  | .its i, sc, g, e => match e with
    | .Call (.Attribute (.Name x _) m ap) [] [] cp => decide (m = "items") && (ap.endLine == cp.line) && seeB T sc i x && isTup g && !T.isOwn i
    | _ => false
end

section
variable {X : Cx} {e : Expr}
theorem plE_star {es : List Expr} {env : PySem.Env} (h : plE e = true) : starEach (e :: es) env = (false, eval e env) :: starEach es env := by
  cases e <;> first | rfl | (cases h)
theorem plE_set {env : PySem.Env} (h : plE e = true) : ∀ x, foldedSetIterable e env x = pure x := by
  intro x
  cases e <;> first | rfl | (cases h)
theorem plE_ix (h : plE e = true) : PlainIx e := by
  intro o i
  cases e <;> first | rfl | (cases h)
theorem any_back {pos : Pos} : ∀ {es : List Expr} {env : PySem.Env}, (∀ e ∈ es, plE e = true) → (backTo pos (starEach es env)).any (·.1) = false
  | [], _, _ => rfl
  | e :: es, env, h => by
    rw [plE_star (h e (by simp))]
    unfold backTo
    rw [List.map_cons, List.any_cons]
    have := any_back (pos := pos) (es := es) (env := env) fun x hx => h x (List.mem_cons_of_mem _ hx)
    unfold backTo at this
    rw [this]
    rfl
theorem visB_ok {sc : Scope} {x : Str} (h : visB sc x = true) : Vis sc x := by
  unfold visB at h
  unfold Vis
  split at h <;> simp_all
theorem locB_ok {d : Bool} {sc : Scope} {x : Str} (h : locB d sc x = true) : L2.Loc sc x ∧ (d = false → sc.names.lookup x = some .local) := by
  unfold locB at h
  unfold L2.Loc
  split at h
  · rename_i k
    exact ⟨Or.inl k, fun _ => k⟩
  · rename_i k
    subst h
    exact ⟨.inr k, fun q => nomatch q⟩
  · cases h
theorem glB_ok {sc : Scope} {x : Str} (h : glB sc x = true) (hs : X.env.scope = sc) : Gl X x := by
  unfold glB at h
  unfold Gl PySem.Env.kindOf
  rw [hs]
  split at h <;> simp_all
theorem nmB_ok {x : Str} (h : nmB x = true) : (x == ("__debug__" : Str)) = false ∧ (x == ("__classdict__" : Str)) = false ∧ x ≠ "__name__" := by
  unfold nmB at h
  rw [Bool.and_eq_true, Bool.and_eq_true, decide_eq_true_eq] at h
  refine ⟨?_, ?_, h.2⟩
  · have := h.1.1; cases q : (x == ("__debug__" : Str)) <;> simp_all
  · have := h.1.2; cases q : (x == ("__classdict__" : Str)) <;> simp_all
end
end Den
namespace Den
open PySem PySem.Spec PyProof.Rows L2

abbrev W0 : WX := fun _ _ _ _ => False
theorem takesW0 {X : Cx} : Takes X W0 := fun _ _ ⟨_, _, _, _, _, _, _, _, _, _, _, _, _, _, _, _, w⟩ => w.elim

/-- a def's promise: by data -/
def spD (K : PySem.W.Frag) (cls : Nat → Value) (n : Nat) (fr : Bool) (g : List D → R D) : Sp := fun vs H Q E => vs.length = n ∧ ∃ G ds, Ok2 G H ∧ RpL K G vs ds ∧ match g ds with
  | .ok z => ∀ v H' G', Stp G H G' H' → PK (if fr then .T else .S) K G H G' H' v z → Q v H'
  | .exc c => ∀ H' G', Stp G H G' H' → E (cls c) none H'
  | .bad => False
structure FnD (P : Program) (w : World) (K : PySem.W.Frag) (mg : Str → Option Value) (base : Heap) (A : Around) (cls : Nat → Value) (g : List D → R D) (x : Str) (n : Nat) (fr : Bool) : Prop where
  ex : ∃ (fa : Addr) (fd : FuncData) (ps : List Str) (k : Nat), FnOk P w K mg base (L2.CX P w) k fa fd ps (spD K cls n fr g) ∧ Room k A ∧ mg x = some (.ref fa) ∧ PySem.W.keepIn K (.ref fa) = true ∧ Binds K fd ps []
/-- where a def's body (d) or a comprehension's block stands -/
structure Ctx (T : Tbl) (fn : Nat → List D → R D) (W : WX) (cls : Nat → Value) (d : Bool) (sc : Scope) (X : Cx) : Prop where
  hN : X.N = T.N
  nd : T.N.Nodup
  hs : X.env.scope = sc
  calm : X.calm = true
  fnc : d = true → ∀ x, X.fn x = true
  bt : ∀ x ∈ T.bt, X.mg x = none
  cs : ∀ p ∈ T.cs, ∃ t, X.mg p.1 = some (.int p.2 t)
  un : X.A.units + 64 < cLine
  tk : Takes X W
  fns : ∀ f x n fr, T.fns.lookup f = some (x, n, fr) → FnD X.prog X.w X.K X.mg X.base X.A cls (fn f) x n fr
theorem Ctx.blk {T : Tbl} {fn : Nat → List D → R D} {W : WX} {cls : Nat → Value} {d : Bool} {sc : Scope} {X : Cx} (C : Ctx T fn W cls d sc X) (s : Shared) (H : Hp) (scope : Scope) (c : Addr) (cl : List (Str × Addr)) (fp : List Addr) :
    Ctx T fn W0 cls false (relS scope sc) (X.blk s H scope (compEnvC scope cl c X.env) fp) where
  hN := C.hN
  nd := C.nd
  hs := by rw [← C.hs]; rfl
  calm := C.calm
  fnc := fun h => nomatch h
  bt := C.bt
  cs := C.cs
  un := C.un
  tk := takesW0
  fns := C.fns

section
variable (W : WX) (cls : Nat → Value) (K : PySem.W.Frag)
/-- what is wanted of an expression's end -/
def Want (k : Kd) (r : R D) (G H : Hp) (σ : L2.St) (Q : VK) : Prop := match r with
  | .ok z => ∀ v H' G', Stp G H G' H' → PK k K G H G' H' v z → Q v H'
  | .exc c => ∀ H' G', Stp G H G' H' → W (cls c) none σ H'
  | .bad => False
def WantL (s : Bool) (r : R (List D)) (G H : Hp) (σ : L2.St) (Q : List V → Hp → Prop) : Prop := match r with
  | .ok zs => ∀ vs H' G', Stp G H G' H' → (if s then RpL K G' vs zs else PBL K G' H' vs zs) → Q vs H'
  | .exc c => ∀ H' G', Stp G H G' H' → W (cls c) none σ H'
  | .bad => False
def WantT (r : R D) (G H : Hp) (σ : L2.St) (Q : Bool → Hp → Prop) : Prop := match r with
  | .ok (.bl b) => ∀ H' G', Stp G H G' H' → Q b H'
  | .ok _ => False
  | .exc c => ∀ H' G', Stp G H G' H' → W (cls c) none σ H'
  | .bad => False
/-- an iterator that gives these data -/
def Yields (Kp : Hp → Prop) (J : It) (ds : List D) (G0 : Hp) : Prop := ∀ G H, Same G0 G → Ok2 G H → Kp H →
  (∀ i z, ds[i]? = some z → J.go i H ∧ ∀ x H', J.yld i H x H' → ∃ G', Stp G H G' H' ∧ Rp K G' x z) ∧ J.stop ds.length H
def WantI (nb : Bool) (r : R (List D)) (G H : Hp) (σ : L2.St) (Q : It → Hp → Prop) : Prop := match r with
  | .ok zs => ∀ J H' G', Stp G H G' H' → Yields K (fun H2 => nb = true ∨ Same H' H2) J zs G' → Q J H'
  | .exc c => ∀ H' G', Stp G H G' H' → W (cls c) none σ H'
  | .bad => False
variable {W cls K}
theorem Want.shift {k : Kd} {r : R D} {G H G1 H1 : Hp} {σ : L2.St} {Q : VK} (t : Stp G H G1 H1) (h : Want W cls K k r G H σ Q) : Want W cls K k r G1 H1 σ Q := by
  cases r with
  | ok z => exact fun v H' G' u p => h v H' G' (t.trans u) (p.shift t)
  | exc c => exact fun H' G' u => h H' G' (t.trans u)
  | bad => exact h
theorem WantT.shift {r : R D} {G H G1 H1 : Hp} {σ : L2.St} {Q : Bool → Hp → Prop} (t : Stp G H G1 H1) (h : WantT W cls r G H σ Q) : WantT W cls r G1 H1 σ Q := by
  cases r with
  | ok z =>
    cases z with
    | bl b => exact fun H' G' u => h H' G' (t.trans u)
    | _ => exact h
  | exc c => exact fun H' G' u => h H' G' (t.trans u)
  | bad => exact h
theorem WantL.shift {s : Bool} {r : R (List D)} {G H G1 H1 : Hp} {σ : L2.St} {Q : List V → Hp → Prop} (t : Stp G H G1 H1) (h : WantL W cls K s r G H σ Q) : WantL W cls K s r G1 H1 σ Q := by
  cases r with
  | ok z => exact fun v H' G' u p => h v H' G' (t.trans u) p
  | exc c => exact fun H' G' u => h H' G' (t.trans u)
  | bad => exact h
theorem WantI.shift {s : Bool} {r : R (List D)} {G H G1 H1 : Hp} {σ : L2.St} {Q : It → Hp → Prop} (t : Stp G H G1 H1) (h : WantI W cls K s r G H σ Q) : WantI W cls K s r G1 H1 σ Q := by
  cases r with
  | ok z => exact fun J H' G' u p => h J H' G' (t.trans u) p
  | exc c => exact fun H' G' u => h H' G' (t.trans u)
  | bad => exact h
end

section
variable (T : Tbl) (fn : Nat → List D → R D) (W : WX) (cls : Nat → Value) (K : PySem.W.Frag)
def tE (x : Ex) : TE := fun σ H Q => ∃ G ρ, FI K T.isOwn G ρ σ H ∧ Want W cls K (kd T x) (ev fn x ρ) G H σ Q
def tT (x : Ex) : TT := fun σ H Q => ∃ G ρ, FI K T.isOwn G ρ σ H ∧ WantT W cls (ev fn x ρ) G H σ Q
def tL (s : Bool) (x : Exs) : TA := fun σ H Q => ∃ G ρ, FI K T.isOwn G ρ σ H ∧ WantL W cls K s (evs fn x ρ) G H σ Q
mutual
def nBI : Itr → Bool
  | .seq a => nB T a
  | .rng1 _ => true | .rng2 _ _ => true | .rng3 _ _ _ => true
  | .enum a => nB T a
  | .zip a b => nB T a && nB T b
  | .rev a => nB T a
  | .its i => !T.isOwn i
end
def tIt (x : Itr) : TI := fun σ H Q => ∃ G ρ, FI K T.isOwn G ρ σ H ∧ WantI W cls K (nBI T x) (evi fn x ρ) G H σ Q
end

/-! ### sequencing -/
section
variable {T : Tbl} {fn : Nat → List D → R D} {W : WX} {cls : Nat → Value} {K : PySem.W.Frag} {G H : Hp} {σ : L2.St} {ρ : Env}
theorem seqE {x : Ex} {k : Kd} {f : D → R D} {Q : VK} {P : VK} (F : FI K T.isOwn G ρ σ H) (h : Want W cls K k ((ev fn x ρ).bind f) G H σ Q)
    (q : ∀ z v H1 G1, ev fn x ρ = .ok z → Stp G H G1 H1 → FI K T.isOwn G1 ρ σ H1 → PK (kd T x) K G H G1 H1 v z → Want W cls K k (f z) G1 H1 σ Q → P v H1) : tE T fn W cls K x σ H P := by
  refine ⟨G, ρ, F, ?_⟩
  cases e : ev fn x ρ with
  | ok z =>
    rw [e] at h
    exact fun v H' G' t p => q z v H' G' e t (F.step t) p (Want.shift t h)
  | exc c => rw [e] at h; exact h
  | bad => rw [e] at h; exact h
theorem seqT' {x : Ex} {k : Kd} {f : D → R D} {Q : VK} {P : Bool → Hp → Prop} (F : FI K T.isOwn G ρ σ H) (h : Want W cls K k ((ev fn x ρ).bind fun z => (asBool z).bind fun b => f (.bl b)) G H σ Q)
    (q : ∀ b H1 G1, Stp G H G1 H1 → FI K T.isOwn G1 ρ σ H1 → Want W cls K k (f (.bl b)) G1 H1 σ Q → P b H1) : tT T fn W cls K x σ H P := by
  refine ⟨G, ρ, F, ?_⟩
  cases e : ev fn x ρ with
  | ok z =>
    rw [e] at h
    cases z with
    | bl b => exact fun H' G' t => q b H' G' t (F.step t) (Want.shift t h)
    | _ => exact h
  | exc c => rw [e] at h; exact h
  | bad => rw [e] at h; exact h
theorem seqTT {x : Ex} {f : Bool → R D} {Q : Bool → Hp → Prop} {P : Bool → Hp → Prop} (F : FI K T.isOwn G ρ σ H) (h : WantT W cls ((ev fn x ρ).bind fun z => (asBool z).bind f) G H σ Q)
    (q : ∀ b H1 G1, Stp G H G1 H1 → FI K T.isOwn G1 ρ σ H1 → WantT W cls (f b) G1 H1 σ Q → P b H1) : tT T fn W cls K x σ H P := by
  refine ⟨G, ρ, F, ?_⟩
  cases e : ev fn x ρ with
  | ok z =>
    rw [e] at h
    cases z with
    | bl b => exact fun H' G' t => q b H' G' t (F.step t) (WantT.shift t h)
    | _ => exact h
  | exc c => rw [e] at h; exact h
  | bad => rw [e] at h; exact h
theorem seqL {x : Exs} {s : Bool} {k : Kd} {f : List D → R D} {Q : VK} {P : List V → Hp → Prop} (F : FI K T.isOwn G ρ σ H) (h : Want W cls K k ((evs fn x ρ).bind f) G H σ Q)
    (q : ∀ zs vs H1 G1, evs fn x ρ = .ok zs → Stp G H G1 H1 → FI K T.isOwn G1 ρ σ H1 → (if s then RpL K G1 vs zs else PBL K G1 H1 vs zs) → Want W cls K k (f zs) G1 H1 σ Q → P vs H1) : tL T fn W cls K s x σ H P := by
  refine ⟨G, ρ, F, ?_⟩
  cases e : evs fn x ρ with
  | ok z =>
    rw [e] at h
    exact fun v H' G' t p => q z v H' G' e t (F.step t) p (Want.shift t h)
  | exc c => rw [e] at h; exact h
  | bad => rw [e] at h; exact h
theorem PK.mono {k : Kd} {G1 H1 G2 H2 : Hp} {v : V} {z : D} (h : PK k K G H G1 H1 v z) (t : Stp G1 H1 G2 H2) : PK k K G H G2 H2 v z := by
  cases k with
  | S => exact Rp.mono t.g h
  | T =>
    obtain ⟨a, o, e, n, ho, hg, r⟩ := h
    exact ⟨a, o, e, n, t.h _ _ ho, t.k _ _ ho hg, r.mono t.g⟩
  | B => exact PB.step t h
theorem PK.bl {k : Kd} {G1 H1 : Hp} {v : V} {b : Bool} (h : PK k K G H G1 H1 v (.bl b)) : v = .bl b := by
  have h := h.toB
  rcases h with h | ⟨a, o, rfl, ho, hg, r⟩
  · exact bl_inv h
  · cases r
theorem PK.int {k : Kd} {G1 H1 : Hp} {v : V} {b : Int} (h : PK k K G H G1 H1 v (.int b)) : v = .int b := by
  have h := h.toB
  rcases h with h | ⟨a, o, rfl, ho, hg, r⟩
  · exact int_inv h
  · cases r
theorem want_ok {k : Kd} {z : D} {Q : VK} {v : V} (ok : Ok2 G H) (h : Want W cls K k (.ok z) G H σ Q) (p : PK k K G H G H v z) : Q v H := h v H G (Stp.refl ok) p
theorem want_bool {k : Kd} {f : Bool → R D} {Q : VK} {z : D} (h : Want W cls K k ((asBool z).bind f) G H σ Q) : ∃ b, z = .bl b ∧ Want W cls K k (f b) G H σ Q := by
  cases z with
  | bl b => exact ⟨b, rfl, h⟩
  | _ => exact h.elim
theorem want_int {k : Kd} {f : Int → R D} {Q : VK} {z : D} (h : Want W cls K k ((asInt z).bind f) G H σ Q) : ∃ b, z = .int b ∧ Want W cls K k (f b) G H σ Q := by
  cases z with
  | int b => exact ⟨b, rfl, h⟩
  | _ => exact h.elim
/-- a result that no exception can be -/
theorem want_pure {k : Kd} {r : R D} {Q : VK} (hn : ∀ c, r ≠ .exc c) (h : Want W cls K k r G H σ Q) : ∃ z, r = .ok z ∧ ∀ v H' G', Stp G H G' H' → PK k K G H G' H' v z → Q v H' := by
  cases r with
  | ok z => exact ⟨z, rfl, h⟩
  | exc c => exact absurd rfl (hn c)
  | bad => exact h.elim
theorem nB_ne {x : Ex} (h : nB T x = true) : kd T x ≠ .B := by
  unfold nB at h
  intro e
  rw [e] at h
  cases h
end

/-! ### no exception comes of the operators -/
theorem ne_guard {α : Type} {b : Bool} {r : R α} (h : ∀ c, r ≠ .exc c) : ∀ c, R.guard b r ≠ .exc c := by
  intro c
  unfold R.guard
  split
  · exact h c
  · exact fun q => nomatch q
theorem ne_bind {α β : Type} {r : R α} {f : α → R β} (h : ∀ c, r ≠ .exc c) (hf : ∀ a c, f a ≠ .exc c) : ∀ c, r.bind f ≠ .exc c := by
  intro c
  cases r with
  | ok a => exact hf a c
  | exc e => exact absurd rfl (h e)
  | bad => exact fun q => nomatch q
theorem ne_ok {α : Type} {a : α} : ∀ c, (R.ok a) ≠ .exc c := fun _ q => nomatch q
theorem ne_bad {α : Type} : ∀ c, (R.bad : R α) ≠ .exc c := fun _ q => nomatch q
theorem binD_ne (o : Bop) (x y : D) : ∀ c, binD o x y ≠ .exc c := by
  unfold binD
  split <;> first | exact ne_ok | exact ne_guard ne_ok | exact ne_bad
theorem eqD_ne (x y : D) : ∀ c, eqD x y ≠ .exc c := by
  unfold eqD; exact ne_guard ne_ok
theorem inD_ne (x y : D) : ∀ c, inD x y ≠ .exc c := by
  unfold inD
  split <;> first | exact ne_guard ne_ok | exact ne_bad | (split <;> first | exact ne_ok | exact ne_bad)
theorem dgD_ne (x y z : D) : ∀ c, dgD x y z ≠ .exc c := by
  unfold dgD
  split <;> first | exact ne_bad | (split <;> first | exact ne_ok | exact ne_bad)
theorem dlD_ne (x y : D) : ∀ c, dlD x y ≠ .exc c := by
  unfold dlD
  split <;> first | exact ne_ok | exact ne_bad
theorem itemsD_ne (x : D) : ∀ c, itemsD x ≠ .exc c := by
  unfold itemsD
  split <;> first | exact ne_ok | exact ne_bad
theorem cmpD_ne (o : Cop) (x y : D) : ∀ c, cmpD o x y ≠ .exc c := by
  unfold cmpD
  split <;> first | exact ne_ok | exact ne_bind (eqD_ne _ _) fun _ => ne_ok | exact ne_bind (inD_ne _ _) fun _ => ne_ok | exact ne_bad
theorem ixD_ne (x y : D) : ∀ c, ixD x y ≠ .exc c := by
  unfold ixD
  split
  · split <;> first | exact ne_ok | exact ne_bad
  · split <;> first | exact ne_ok | exact ne_bad
  · refine ne_guard ?_
    split <;> first | exact ne_ok | exact ne_bad
  · split <;> first | exact ne_ok | exact ne_bad
  · exact ne_bad
theorem slD_ne (x : D) (lo hi : Option Int) : ∀ c, slD x lo hi ≠ .exc c := by
  unfold slD
  split <;> first | exact ne_ok | exact ne_bad
theorem someR_ne {α : Type} (o : Option α) : ∀ c, someR o ≠ .exc c := by
  cases o <;> first | exact ne_ok | exact ne_bad
theorem biD_ne (b : Bi) (xs : List D) : ∀ c, biD b xs ≠ .exc c := by
  unfold biD
  split <;> first | exact ne_ok | exact ne_guard ne_ok | exact ne_bad | (refine ne_bind (someR_ne _) fun a => ?_; first | exact ne_ok | (split <;> first | exact ne_ok | exact ne_bad)) | (split <;> first | exact ne_ok | exact ne_guard ne_ok)
theorem isiD_ne (t : Ty) (x : D) : ∀ c, isiD t x ≠ .exc c := by
  cases x <;> simp [isiD]
end Den
namespace Den
open PySem PySem.Spec PyProof.Rows L2

def isBO : Expr → Bool
  | .BoolOp _ _ _ => true
  | _ => false
structure Snd (T : Tbl) (fn : Nat → List D → R D) (W : WX) (cls : Nat → Value) (X : Cx) (x : Ex) (e : Expr) : Prop where
  pe : PE X e (tE T fn W cls X.K x)
  pt : ntI e = true → PT X e (tT T fn W cls X.K x)
  pw : isBO e = true → PW X e (tT T fn W cls X.K x)

section
variable {T : Tbl} {fn : Nat → List D → R D} {W : WX} {cls : Nat → Value} {d : Bool} {sc : Scope} {X : Cx}
theorem pe_imp {e : Expr} {t u : TE} (h : PE X e u) (i : ∀ σ H Q, t σ H Q → u σ H Q) : PE X e t := pe_ex fun σ H Q q => ⟨u, h, i σ H Q q⟩
theorem pt_imp {e : Expr} {t u : TT} (h : PT X e u) (i : ∀ σ H Q, t σ H Q → u σ H Q) : PT X e t := pt_ex fun σ H Q q => ⟨u, h, i σ H Q q⟩
theorem pa_imp {e : List Expr} {t u : TA} (h : PA X e u) (i : ∀ σ H Q, t σ H Q → u σ H Q) : PA X e t := pa_ex fun σ H Q q => ⟨u, h, i σ H Q q⟩
theorem pi_imp {g e : Expr} {t u : TI} (h : PI X g e u) (i : ∀ σ H Q, t σ H Q → u σ H Q) : PI X g e t := pi_ex fun σ H Q q => ⟨u, h, i σ H Q q⟩
theorem pw_imp {e : Expr} {t u : TT} (h : PW X e u) (i : ∀ σ H Q, t σ H Q → u σ H Q) : PW X e t := ⟨fun wh pins s σ H Q I q => h.run wh pins s σ H Q I (i σ H Q q)⟩
/-- a test by the value -/
theorem tT_tB {x : Ex} {σ : L2.St} {H : Hp} {Q : Bool → Hp → Prop} (h : tT T fn W cls X.K x σ H Q) : tB (tE T fn W cls X.K x) σ H Q := by
  obtain ⟨G, ρ, F, h⟩ := h
  refine ⟨G, ρ, F, ?_⟩
  cases e : ev fn x ρ with
  | ok z =>
    rw [e] at h
    cases z with
    | bl b => exact fun v H' G' t p => ⟨b, p.bl, h H' G' t⟩
    | _ => exact h.elim
  | exc c => rw [e] at h; exact h
  | bad => rw [e] at h; exact h
theorem Snd.of {x : Ex} {e : Expr} (pe : PE X e (tE T fn W cls X.K x)) (he : ∀ whole, isTrue e X.env whole = (do let v ← whole; standAt e.pos; holding [v] (truthy v))) (hb : isBO e = false) : Snd T fn W cls X x e :=
  ⟨pe, fun _ => pt_imp (pt_val pe he) fun _ _ _ h => tT_tB h, fun h => by rw [hb] at h; cases h⟩
/-- a comparison -/
theorem Snd.cmp {x : Ex} {e : Expr} {t : TE} (pe : PE X e t) (pt : PT X e (tTest t)) (h : ∀ σ H Q, tE T fn W cls X.K x σ H Q → t σ H Q) (hb : isBO e = false) : Snd T fn W cls X x e :=
  ⟨pe_imp pe h, fun _ => pt_imp pt fun σ H Q q => h σ H _ (tT_tB q), fun h => by rw [hb] at h; cases h⟩

theorem snd_var (C : Ctx T fn W cls d sc X) {i : Nat} {y : Str} {p : Pos} (h1 : T.N[i]? = some y) (h2 : visB sc y = true) (h3 : nmB y = true) : Snd T fn W cls X (.var i) (.Name y p) := by
  obtain ⟨n1, n2, n3⟩ := nmB_ok h3
  refine .of (pe_imp (pe_var (i := i) (by rw [C.hN]; exact h1) (by rw [C.hs]; exact visB_ok h2) n1 n2) fun σ H Q h => ?_) (fun _ => rfl) rfl
  obtain ⟨G, ρ, F, h⟩ := h
  unfold ev getV at h
  cases e : ρ[i]? with
  | none => rw [e] at h; exact h.elim
  | some o =>
    cases o with
    | none => rw [e] at h; exact h.elim
    | some z =>
      rw [e] at h
      obtain ⟨v, e1, p⟩ := F.var e
      refine ⟨v, e1, want_ok F.ok h ?_⟩
      cases ho : T.isOwn i with
      | true =>
        have ek : kd T (.var i) = .B := by show (if T.isOwn i = true then Kd.B else Kd.S) = _; rw [ho]; rfl
        rw [ek]
        exact p
      | false =>
        have ek : kd T (.var i) = .S := by show (if T.isOwn i = true then Kd.B else Kd.S) = _; rw [ho]; rfl
        rw [ek]
        obtain ⟨v', e2, r⟩ := F.sh i z ho e
        rw [e1] at e2
        cases e2
        exact r
theorem snd_cst (C : Ctx T fn W cls d sc X) {z : D} {e : Expr} {v : V} (hp : PE X e (tC v)) (hr : ∀ G, Rp X.K G v z) (he : ∀ whole, isTrue e X.env whole = (do let v ← whole; standAt e.pos; holding [v] (truthy v))) (hb : isBO e = false) : Snd T fn W cls X (.cst z) e := by
  refine .of (pe_imp hp fun σ H Q h => ?_) he hb
  obtain ⟨G, ρ, F, h⟩ := h
  exact want_ok F.ok h (hr G)
theorem snd_gint (C : Ctx T fn W cls d sc X) {y : Str} {i : Int} {p : Pos} (h2 : glB sc y = true) (h3 : nmB y = true) (h4 : (y, i) ∈ T.cs) : Snd T fn W cls X (.gint y i) (.Name y p) := by
  obtain ⟨n1, n2, n3⟩ := nmB_ok h3
  obtain ⟨t, ht⟩ := C.cs _ h4
  refine .of (pe_imp (pe_glob (glB_ok h2 C.hs) ht (v := .int i) ⟨_, rfl⟩ n1) fun σ H Q h => ?_) (fun _ => rfl) rfl
  obtain ⟨G, ρ, F, h⟩ := h
  exact want_ok (v := .int i) F.ok h (Rp.int i)
/-- two expressions and an operator -/
theorem tOp_of {a b : Ex} {k : Kd} {f : D → D → R D} {r : R2} {σ : L2.St} {H G : Hp} {ρ : Env} {Q : VK} (F : FI X.K T.isOwn G ρ σ H) (hn : ∀ x y c, f x y ≠ .exc c)
    (hr : ∀ (G H : Hp) (x y : V) (d e z : D) (Q : VK), Ok2 G H → PB X.K G H x d → PB X.K G H y e → f d e = .ok z → (∀ v H' G', Stp G H G' H' → PK k X.K G H G' H' v z → Q v H') → r x y H Q)
    (h : Want W cls X.K k ((ev fn a ρ).bind fun x => (ev fn b ρ).bind fun y => f x y) G H σ Q) : tOp r (tE T fn W cls X.K a) (tE T fn W cls X.K b) σ H Q := by
  refine seqE F h fun z1 v1 H1 G1 _ t1 F1 p1 h1 => ?_
  refine seqE F1 h1 fun z2 v2 H2 G2 _ t2 F2 p2 h2 => ?_
  obtain ⟨z, hz, q⟩ := want_pure (hn z1 z2) h2
  exact hr G2 H2 v1 v2 z1 z2 z Q F2.ok (p1.toB.step t2) p2.toB hz q
theorem snd_bin (C : Ctx T fn W cls d sc X) {o : Bop} {a b : Ex} {l r : Expr} {p : Pos} (ha : Snd T fn W cls X a l) (hb : Snd T fn W cls X b r) : Snd T fn W cls X (.bin o a b) (.BinOp l o.py r p) := by
  obtain ⟨R, hR, hq⟩ := opD_bin (X := X) o
  refine .of (pe_imp (pe_op hR ha.pe hb.pe) fun σ H Q h => ?_) (fun _ => rfl) rfl
  obtain ⟨G, ρ, F, h⟩ := h
  exact tOp_of (k := .S) F (binD_ne o) hq h
theorem snd_neg (C : Ctx T fn W cls d sc X) {a : Ex} {l : Expr} {p : Pos} (ha : Snd T fn W cls X a l) : Snd T fn W cls X (.neg a) (.UnaryOp .USub l p) := by
  refine .of (pe_imp (pe_un un_neg ha.pe) fun σ H Q h => ?_) (fun _ => rfl) rfl
  obtain ⟨G, ρ, F, h⟩ := h
  refine seqE F h fun z1 v1 H1 G1 _ t1 F1 p1 h1 => ?_
  obtain ⟨i, rfl, h1⟩ := want_int h1
  exact ⟨i, p1.int, want_ok (v := .int (-i)) F1.ok h1 (Rp.int _)⟩
theorem snd_cmp (C : Ctx T fn W cls d sc X) {o : Cop} {a b : Ex} {l r : Expr} {p : Pos} (hm : behindInMarks o.py r = false) (ha : Snd T fn W cls X a l) (hb : Snd T fn W cls X b r) : Snd T fn W cls X (.cmp o a b) (.Compare l [o.py] [r] p) := by
  obtain ⟨R, hR, hq⟩ := opD_cmp (X := X) C.un o
  refine .cmp (pe_cmpR hR ha.pe hb.pe hm) (pt_cmpR hR ha.pe hb.pe hm) (fun σ H Q h => ?_) rfl
  obtain ⟨G, ρ, F, h⟩ := h
  exact tOp_of (k := .S) F (cmpD_ne o) hq h
theorem snd_isN (C : Ctx T fn W cls d sc X) {a : Ex} {l : Expr} {p p2 : Pos} {j : Nat} (ha : Snd T fn W cls X a l) : Snd T fn W cls X (.isN a) (.Compare l [.Is] [.Constant .none j p2] p) := by
  refine .cmp (pe_cmpR op_isN ha.pe pe_non rfl) (pt_cmpR op_isN ha.pe pe_non rfl) (fun σ H Q h => ?_) rfl
  obtain ⟨G, ρ, F, h⟩ := h
  refine seqE F h fun z1 v1 H1 G1 _ t1 F1 p1 h1 => ?_
  refine ⟨rfl, ?_⟩
  rw [isNon_iff (p1.toB.rd F1.sub)]
  exact want_ok (v := .bl _) F1.ok h1 (Rp.bl _)
theorem snd_notN (C : Ctx T fn W cls d sc X) {a : Ex} {l : Expr} {p p2 : Pos} {j : Nat} (ha : Snd T fn W cls X a l) : Snd T fn W cls X (.notN a) (.Compare l [.IsNot] [.Constant .none j p2] p) := by
  refine .cmp (pe_cmpR op_notN ha.pe pe_non rfl) (pt_cmpR op_notN ha.pe pe_non rfl) (fun σ H Q h => ?_) rfl
  obtain ⟨G, ρ, F, h⟩ := h
  refine seqE F h fun z1 v1 H1 G1 _ t1 F1 p1 h1 => ?_
  refine ⟨rfl, ?_⟩
  rw [isNon_iff (p1.toB.rd F1.sub)]
  exact want_ok (v := .bl _) F1.ok h1 (Rp.bl _)
theorem snd_chain (C : Ctx T fn W cls d sc X) {o o' : Cop} {a b c : Ex} {l m r : Expr} {p : Pos} (hm : lastMarks [o.py, o'.py] [m, r] = false) (ha : Snd T fn W cls X a l) (hb : Snd T fn W cls X b m) (hc : Snd T fn W cls X c r) :
    Snd T fn W cls X (.chain o o' a b c) (.Compare l [o.py, o'.py] [m, r] p) := by
  obtain ⟨R1, hR1, hq1⟩ := opD_cmp (X := X) C.un o
  obtain ⟨R2, hR2, hq2⟩ := opD_cmp (X := X) C.un o'
  refine .cmp (pe_chain hR1 hR2 ha.pe hb.pe hc.pe hm) (pt_chain hR1 hR2 ha.pe hb.pe hc.pe hm) (fun σ H Q h => ?_) rfl
  obtain ⟨G, ρ, F, h⟩ := h
  refine seqE F h fun z1 v1 H1 G1 _ t1 F1 p1 h1 => ?_
  refine seqE F1 h1 fun z2 v2 H2 G2 _ t2 F2 p2 h2 => ?_
  have p1 := p1.toB.step t2
  have p2 := p2.toB
  cases e : cmpD o z1 z2 with
  | exc c => exact absurd e (cmpD_ne o z1 z2 c)
  | bad => rw [e] at h2; exact h2.elim
  | ok t =>
    rw [e] at h2
    obtain ⟨k, rfl, h2⟩ := want_bool h2
    refine hq1 G2 H2 v1 v2 z1 z2 _ _ F2.ok p1 p2 e fun v H3 G3 t3 r3 => ?_
    refine ⟨k, bl_inv r3, ?_⟩
    have F3 := F2.step t3
    have h3 := Want.shift t3 h2
    cases k with
    | false => exact want_ok (v := .bl false) F3.ok h3 (Rp.bl _)
    | true =>
      refine seqE F3 h3 fun z4 v4 H4 G4 _ t4 F4 p4 h4 => ?_
      obtain ⟨z, hz, q⟩ := want_pure (cmpD_ne o' z2 z4) h4
      exact hq2 G4 H4 v2 v4 z2 z4 z Q F4.ok ((p2.step t3).step t4) p4.toB hz q
/-- and, or -/
theorem snd_and (C : Ctx T fn W cls d sc X) {a b : Ex} {x y : Expr} {r : List Expr} {p : Pos} (ha : Snd T fn W cls X a x) (nx : ntI x = true)
    (hb : (∃ e, Snd T fn W cls X b e ∧ r = [] ∧ e = y ∧ ntI y = true) ∨ (∃ e, Snd T fn W cls X b e ∧ e = .BoolOp .And (y :: r) p)) : Snd T fn W cls X (.and_ a b) (.BoolOp .And (x :: y :: r) p) := by
  have hpe : PE X (.BoolOp .And (y :: r) p) (tE T fn W cls X.K b) := by
    rcases hb with ⟨e, h, rfl, rfl, _⟩ | ⟨e, h, rfl⟩
    · exact pe_one h.pe
    · exact h.pe
  have hpw : PW X (.BoolOp .And (y :: r) p) (tT T fn W cls X.K b) := by
    rcases hb with ⟨e, h, rfl, rfl, n⟩ | ⟨e, h, rfl⟩
    · exact pw_and1 (h.pt n)
    · exact h.pw rfl
  have w : PW X (.BoolOp .And (x :: y :: r) p) (tT T fn W cls X.K (.and_ a b)) := by
    refine pw_imp (pw_and (ha.pt nx) hpw) fun σ H Q h => ?_
    obtain ⟨G, ρ, F, h⟩ := h
    refine seqTT F h fun k H1 G1 t1 F1 h1 => ?_
    cases k with
    | true =>
      rw [if_pos rfl]
      refine seqTT F1 h1 fun k2 H2 G2 t2 F2 h2 => h2 H2 G2 (Stp.refl F2.ok)
    | false =>
      rw [if_neg Bool.false_ne_true]
      exact h1 H1 G1 (Stp.refl F1.ok)
  refine ⟨pe_imp (pe_and ha.pe hpe) fun σ H Q h => ?_, fun _ => w.pt, fun _ => w⟩
  obtain ⟨G, ρ, F, h⟩ := h
  refine seqE F h fun z1 v1 H1 G1 _ t1 F1 p1 h1 => ?_
  obtain ⟨k, rfl, h1⟩ := want_bool h1
  refine ⟨k, p1.bl, ?_⟩
  cases k with
  | true =>
    rw [if_pos rfl]
    refine seqE F1 h1 fun z2 v2 H2 G2 _ t2 F2 p2 h2 => ?_
    obtain ⟨k2, rfl, h2⟩ := want_bool h2
    rw [p2.bl]
    exact want_ok (v := .bl _) F2.ok h2 (Rp.bl _)
  | false =>
    rw [if_neg Bool.false_ne_true]
    exact want_ok (v := .bl _) F1.ok h1 (Rp.bl _)
theorem snd_or (C : Ctx T fn W cls d sc X) {a b : Ex} {x y : Expr} {r : List Expr} {p : Pos} (ha : Snd T fn W cls X a x) (nx : ntI x = true)
    (hb : (∃ e, Snd T fn W cls X b e ∧ r = [] ∧ e = y ∧ ntI y = true) ∨ (∃ e, Snd T fn W cls X b e ∧ e = .BoolOp .Or (y :: r) p)) : Snd T fn W cls X (.or_ a b) (.BoolOp .Or (x :: y :: r) p) := by
  have hpe : PE X (.BoolOp .Or (y :: r) p) (tE T fn W cls X.K b) := by
    rcases hb with ⟨e, h, rfl, rfl, _⟩ | ⟨e, h, rfl⟩
    · exact pe_one h.pe
    · exact h.pe
  have hpw : PW X (.BoolOp .Or (y :: r) p) (tT T fn W cls X.K b) := by
    rcases hb with ⟨e, h, rfl, rfl, n⟩ | ⟨e, h, rfl⟩
    · exact pw_or1 (h.pt n)
    · exact h.pw rfl
  have w : PW X (.BoolOp .Or (x :: y :: r) p) (tT T fn W cls X.K (.or_ a b)) := by
    refine pw_imp (pw_or (ha.pt nx) hpw) fun σ H Q h => ?_
    obtain ⟨G, ρ, F, h⟩ := h
    refine seqTT F h fun k H1 G1 t1 F1 h1 => ?_
    cases k with
    | true =>
      rw [if_pos rfl]
      exact h1 H1 G1 (Stp.refl F1.ok)
    | false =>
      rw [if_neg Bool.false_ne_true]
      refine seqTT F1 h1 fun k2 H2 G2 t2 F2 h2 => h2 H2 G2 (Stp.refl F2.ok)
  refine ⟨pe_imp (pe_or ha.pe hpe) fun σ H Q h => ?_, fun _ => w.pt, fun _ => w⟩
  obtain ⟨G, ρ, F, h⟩ := h
  refine seqE F h fun z1 v1 H1 G1 _ t1 F1 p1 h1 => ?_
  obtain ⟨k, rfl, h1⟩ := want_bool h1
  refine ⟨k, p1.bl, ?_⟩
  cases k with
  | false =>
    rw [if_neg Bool.false_ne_true]
    refine seqE F1 h1 fun z2 v2 H2 G2 _ t2 F2 p2 h2 => ?_
    obtain ⟨k2, rfl, h2⟩ := want_bool h2
    rw [p2.bl]
    exact want_ok (v := .bl _) F2.ok h2 (Rp.bl _)
  | true =>
    rw [if_pos rfl]
    exact want_ok (v := .bl _) F1.ok h1 (Rp.bl _)
theorem snd_not (C : Ctx T fn W cls d sc X) {a : Ex} {l : Expr} {p : Pos} (ha : Snd T fn W cls X a l) (nl : ntI l = true) : Snd T fn W cls X (.not_ a) (.UnaryOp .Not l p) := by
  refine ⟨pe_imp (pe_not ha.pe) fun σ H Q h => ?_, fun _ => pt_imp (pt_not (ha.pt nl)) fun σ H Q h => ?_, fun h => nomatch h⟩
  · obtain ⟨G, ρ, F, h⟩ := h
    refine seqE F h fun z1 v1 H1 G1 _ t1 F1 p1 h1 => ?_
    obtain ⟨k, rfl, h1⟩ := want_bool h1
    exact ⟨k, p1.bl, want_ok (v := .bl _) F1.ok h1 (Rp.bl _)⟩
  · obtain ⟨G, ρ, F, h⟩ := h
    exact seqTT F h fun k H1 G1 t1 F1 h1 => h1 H1 G1 (Stp.refl F1.ok)
theorem tE_S {x : Ex} {σ : L2.St} {H G : Hp} {ρ : Env} {Q : VK} (hk : nB T x = true) (F : FI X.K T.isOwn G ρ σ H) (h : Want W cls X.K .S (ev fn x ρ) G H σ Q) : tE T fn W cls X.K x σ H Q := by
  refine ⟨G, ρ, F, ?_⟩
  cases e : ev fn x ρ with
  | ok z =>
    rw [e] at h
    intro v H' G' t p
    obtain ⟨G3, t3, r⟩ := p.toS (nB_ne hk) t
    exact h v H' G3 t3 r
  | exc c => rw [e] at h; exact h
  | bad => rw [e] at h; exact h
theorem snd_ite (C : Ctx T fn W cls d sc X) {c a b : Ex} {t l r : Expr} {p : Pos} (hc : Snd T fn W cls X c t) (nt : ntI t = true) (ha : Snd T fn W cls X a l) (hb : Snd T fn W cls X b r) (na : nB T a = true) (nb : nB T b = true) :
    Snd T fn W cls X (.ite c a b) (.IfExp t l r p) := by
  refine ⟨pe_imp (pe_ifExp (hc.pt nt) ha.pe hb.pe) fun σ H Q h => ?_, (fun h => nomatch h), (fun h => nomatch h)⟩
  obtain ⟨G, ρ, F, h⟩ := h
  have h' : Want W cls X.K .S ((ev fn c ρ).bind fun x => (asBool x).bind fun k => if k then ev fn a ρ else ev fn b ρ) G H σ Q := h
  unfold tIf
  refine ⟨G, ρ, F, ?_⟩
  cases e : ev fn c ρ with
  | exc c' => rw [e] at h'; exact h'
  | bad => rw [e] at h'; exact h'
  | ok z =>
    rw [e] at h'
    obtain ⟨k, rfl, h2⟩ := want_bool h'
    intro H1 G1 t1
    have F1 := F.step t1
    have h3 := Want.shift t1 h2
    cases k with
    | true => exact tE_S na F1 h3
    | false => exact tE_S nb F1 h3

/-! ### argument lists -/
theorem pa_none (s : Bool) : PA X [] (tL T fn W cls X.K s .nil) := by
  refine pa_imp pa_nil fun σ H Q h => ?_
  obtain ⟨G, ρ, F, h⟩ := h
  refine h [] H G (Stp.refl F.ok) ?_
  cases s
  · exact .nil
  · exact .nil
theorem pa_some {s : Bool} {a : Ex} {r : Exs} {e : Expr} {es : List Expr} (ha : Snd T fn W cls X a e) (hp : plE e = true) (hn : s = true → nB T a = true) (hr : PA X es (tL T fn W cls X.K s r)) : PA X (e :: es) (tL T fn W cls X.K s (.cons a r)) := by
  refine pa_imp (pa_cons ha.pe hr (plE_star hp)) fun σ H Q h => ?_
  obtain ⟨G, ρ, F, h⟩ := h
  have h' : WantL W cls X.K s ((ev fn a ρ).bind fun x => (evs fn r ρ).bind fun xs => .ok (x :: xs)) G H σ Q := h
  refine ⟨G, ρ, F, ?_⟩
  cases e1 : ev fn a ρ with
  | exc c' => rw [e1] at h'; exact h'
  | bad => rw [e1] at h'; exact h'
  | ok z =>
    rw [e1] at h'
    intro v H1 G1 t1 p1
    have go : ∀ G1', Stp G H G1' H1 → (if s then Rp X.K G1' v z else PB X.K G1' H1 v z) → tL T fn W cls X.K s r σ H1 fun xs H2 => Q (v :: xs) H2 := fun G1' t1 p1 => by
      have F1 := F.step t1
      have h2 := WantL.shift t1 h'
      refine ⟨G1', ρ, F1, ?_⟩
      cases e2 : evs fn r ρ with
      | exc c' => rw [e2] at h2; exact h2
      | bad => rw [e2] at h2; exact h2
      | ok zs =>
        rw [e2] at h2
        intro vs H2 G2 t2 p2
        refine h2 (v :: vs) H2 G2 t2 ?_
        cases s
        · exact .cons (PB.step t2 p1) p2
        · exact .cons (Rp.mono t2.g p1) p2
    cases s with
    | false => exact go G1 t1 p1.toB
    | true =>
      obtain ⟨G3, t3, r3⟩ := p1.toS (nB_ne (hn rfl)) t1
      exact go G3 t3 r3
theorem snd_tup (C : Ctx T fn W cls d sc X) {es : Exs} {l : List Expr} {n : Nat} {p : Pos} (ha : PA X l (tL T fn W cls X.K true es)) (hl : l.length ≤ Line) (hlen : ∀ ρ zs, evs fn es ρ = .ok zs → zs.length = l.length) : Snd T fn W cls X (.tup es) (.Tuple l n p) := by
  refine .of (pe_imp (pe_tup ha) fun σ H Q h => ?_) (fun _ => rfl) rfl
  obtain ⟨G, ρ, F, h⟩ := h
  refine seqL F h fun zs vs H1 G1 e t1 F1 p1 h1 => ?_
  have p1 : RpL X.K G1 vs zs := p1
  have hz := hlen ρ zs e
  refine ⟨by rw [p1.len, hz, sizeLn]; exact hl, ?_⟩
  exact newS F1.ok (fun v H' G' t r => h1 v H' G' t r) fun a ha => .tup (SqT.of upd_same) (p1.mono (same_upd ha))
theorem snd_lst (C : Ctx T fn W cls d sc X) {es : Exs} {l : List Expr} {p : Pos} (ha : PA X l (tL T fn W cls X.K true es)) (hl : l.length ≤ Line) (hlen : ∀ ρ zs, evs fn es ρ = .ok zs → zs.length = l.length) : Snd T fn W cls X (.lst es) (.List l p) := by
  refine .of (pe_imp (pe_lst ha) fun σ H Q h => ?_) (fun _ => rfl) rfl
  obtain ⟨G, ρ, F, h⟩ := h
  refine seqL F h fun zs vs H1 G1 e t1 F1 p1 h1 => ?_
  have p1 : RpL X.K G1 vs zs := p1
  have hz := hlen ρ zs e
  refine ⟨by rw [p1.len, hz, sizeLn]; exact hl, ?_⟩
  exact newT F1.ok (o := .lst _) trivial (fun v H' G' t r => h1 v H' G' t r) (.lst p1)
theorem evs_len : ∀ {es : Exs} {l : List Expr} {s : Bool} {ρ : Env} {zs : List D}, mEs T s es sc l = true → evs fn es ρ = .ok zs → zs.length = l.length
  | .nil, l, s, ρ, zs, h, e => by
    cases l with
    | nil => cases e; rfl
    | cons _ _ => cases h
  | .cons a r, l, s, ρ, zs, h, e => by
    cases l with
    | nil => cases h
    | cons x es =>
      unfold mEs at h
      rw [Bool.and_eq_true] at h
      unfold evs at e
      obtain ⟨z, e1, e2⟩ := bind_okE e
      obtain ⟨ws, e3, e4⟩ := bind_okE e2
      cases e4
      rw [List.length_cons, List.length_cons, evs_len h.2 e3]

/-! ### subscripts -/
theorem snd_ix (C : Ctx T fn W cls d sc X) {a b : Ex} {l r : Expr} {p : Pos} (ha : Snd T fn W cls X a l) (hb : Snd T fn W cls X b r) (hp : plE r = true) : Snd T fn W cls X (.ix a b) (.Subscript l r p) := by
  obtain ⟨R, hR, hq⟩ := ixD_ok (X := X) C.un
  refine .of (pe_imp (pe_ix hR ha.pe hb.pe (plE_ix hp)) fun σ H Q h => ?_) (fun _ => rfl) rfl
  obtain ⟨G, ρ, F, h⟩ := h
  exact tOp_of (k := .S) F ixD_ne hq h
theorem snd_slF (C : Ctx T fn W cls d sc X) {a lo : Ex} {l r : Expr} {p p2 : Pos} (ha : Snd T fn W cls X a l) (hb : Snd T fn W cls X lo r) : Snd T fn W cls X (.slF a lo) (.Subscript l (.Slice (some r) none none p2) p) := by
  obtain ⟨R, hR, hq⟩ := slD_ok (X := X)
  refine .of (pe_imp (pe_slice hR ha.pe (po_some hb.pe) po_none) fun σ H Q h => ?_) (fun _ => rfl) rfl
  obtain ⟨G, ρ, F, h⟩ := h
  refine seqE F h fun z1 v1 H1 G1 _ t1 F1 p1 h1 => ?_
  refine seqE F1 h1 fun z2 v2 H2 G2 _ t2 F2 p2 h2 => ?_
  obtain ⟨i, rfl, h2⟩ := want_int h2
  obtain ⟨z, hz, q⟩ := want_pure (slD_ne z1 (some i) none) h2
  exact ⟨i, p2.int, hq G2 H2 v1 (some i) none z1 z Q F2.ok (p1.toB.step t2) hz q⟩
theorem snd_slT (C : Ctx T fn W cls d sc X) {a lo : Ex} {l r : Expr} {p p2 : Pos} (ha : Snd T fn W cls X a l) (hb : Snd T fn W cls X lo r) : Snd T fn W cls X (.slT a lo) (.Subscript l (.Slice none (some r) none p2) p) := by
  obtain ⟨R, hR, hq⟩ := slD_ok (X := X)
  refine .of (pe_imp (pe_slice hR ha.pe po_none (po_some hb.pe)) fun σ H Q h => ?_) (fun _ => rfl) rfl
  obtain ⟨G, ρ, F, h⟩ := h
  refine seqE F h fun z1 v1 H1 G1 _ t1 F1 p1 h1 => ?_
  refine seqE F1 h1 fun z2 v2 H2 G2 _ t2 F2 p2 h2 => ?_
  obtain ⟨i, rfl, h2⟩ := want_int h2
  obtain ⟨z, hz, q⟩ := want_pure (slD_ne z1 none (some i)) h2
  exact ⟨i, p2.int, hq G2 H2 v1 none (some i) z1 z Q F2.ok (p1.toB.step t2) hz q⟩
theorem snd_slB (C : Ctx T fn W cls d sc X) {a lo hi : Ex} {l m r : Expr} {p p2 : Pos} (ha : Snd T fn W cls X a l) (hb : Snd T fn W cls X lo m) (hc : Snd T fn W cls X hi r) : Snd T fn W cls X (.slB a lo hi) (.Subscript l (.Slice (some m) (some r) none p2) p) := by
  obtain ⟨R, hR, hq⟩ := slD_ok (X := X)
  refine .of (pe_imp (pe_slice hR ha.pe (po_some hb.pe) (po_some hc.pe)) fun σ H Q h => ?_) (fun _ => rfl) rfl
  obtain ⟨G, ρ, F, h⟩ := h
  refine seqE F h fun z1 v1 H1 G1 _ t1 F1 p1 h1 => ?_
  refine seqE F1 h1 fun z2 v2 H2 G2 _ t2 F2 p2 h2 => ?_
  obtain ⟨i, rfl, h2⟩ := want_int h2
  refine ⟨i, p2.int, ?_⟩
  refine seqE F2 h2 fun z3 v3 H3 G3 _ t3 F3 p3 h3 => ?_
  obtain ⟨j, rfl, h3⟩ := want_int h3
  obtain ⟨z, hz, q⟩ := want_pure (slD_ne z1 (some i) (some j)) h3
  exact ⟨j, p3.int, hq G3 H3 v1 (some i) (some j) z1 z Q F3.ok ((p1.toB.step t2).step t3) hz q⟩
end
end Den
namespace Den
open PySem PySem.Spec PyProof.Rows L2
section
variable {T : Tbl} {fn : Nat → List D → R D} {W : WX} {cls : Nat → Value} {d : Bool} {sc : Scope} {X : Cx}

theorem blt_ok (C : Ctx T fn W cls d sc X) {x : Str} (h : blt T sc x = true) : Gl X x ∧ X.mg x = none ∧ x ≠ "__name__" ∧ (x == ("__debug__" : Str)) = false := by
  unfold blt at h
  rw [Bool.and_eq_true, Bool.and_eq_true, decide_eq_true_eq] at h
  obtain ⟨n1, n2, n3⟩ := nmB_ok h.1.2
  exact ⟨glB_ok h.1.1 C.hs, C.bt _ h.2, n3, n1⟩
theorem boot_bi (b : Bi) : bootBuiltins b.nm = some b.val := by
  cases b <;> decide +kernel
theorem mEs_pl : ∀ {es : Exs} {l : List Expr} {s : Bool}, mEs T s es sc l = true → ∀ e ∈ l, plE e = true
  | .nil, l, s, h => by
    cases l with
    | nil => simp
    | cons _ _ => cases h
  | .cons a r, l, s, h => by
    cases l with
    | nil => cases h
    | cons x es =>
      unfold mEs at h
      rw [Bool.and_eq_true, Bool.and_eq_true, Bool.and_eq_true] at h
      intro e he
      rcases List.mem_cons.mp he with q | q
      · rw [q]; exact h.1.1.2
      · exact mEs_pl h.2 e q
theorem snd_bi (C : Ctx T fn W cls d sc X) {b : Bi} {es : Exs} {l : Expr} {ls : List Expr} {p p2 : Pos} (hb : blt T sc b.nm = true) (ha : PA X (l :: ls) (tL T fn W cls X.K false es)) (hp : ∀ e ∈ l :: ls, plE e = true) :
    Snd T fn W cls X (.bi b es) (.Call (.Name b.nm p) (l :: ls) [] p2) := by
  obtain ⟨g1, g2, g3, g4⟩ := blt_ok C hb
  obtain ⟨R, hR, hq⟩ := callD_bi (X := X) C.calm C.un b
  have go : ∀ σ H Q, tE T fn W cls X.K (.bi b es) σ H Q → tCB R (tL T fn W cls X.K false es) σ H Q := fun σ H Q h => by
    obtain ⟨G, ρ, F, h⟩ := h
    refine seqL F h fun zs vs H1 G1 e t1 F1 p1 h1 => ?_
    obtain ⟨z, hz, q⟩ := want_pure (biD_ne b zs) h1
    exact hq G1 H1 vs zs z Q F1.ok p1 hz q
  have hst := plE_star (es := ls) (env := X.env) (hp l (by simp))
  have hpl : (backTo p2 (starEach ls X.env)).any (·.1) = false := any_back fun e he => hp e (List.mem_cons_of_mem _ he)
  have hboot := boot_bi b
  cases hv : b.val with
  | builtin id =>
    rw [hv] at hR hboot
    exact .of (pe_imp (pe_callB hR g1 g2 hboot ha g3 g4 hst hpl) go) (fun _ => rfl) rfl
  | type id =>
    rw [hv] at hR hboot
    exact .of (pe_imp (pe_callTy hR g1 g2 hboot ha g3 g4 hst hpl) go) (fun _ => rfl) rfl
  | _ => cases b <;> cases hv
theorem kit_isi {z : D} {t : Ty} {b : Bool} (h : isiD t z = .ok b) : kitB (tyD z) t.id = some b := by
  have k1 : ∀ t : Ty, kitB "NoneType" t.id = some false := by intro t; cases t <;> decide +kernel
  have k2 : ∀ t : Ty, kitB "bool" t.id = some (match t with | .int => true | .bool => true | _ => false) := by intro t; cases t <;> decide +kernel
  have k3 : ∀ t : Ty, kitB "int" t.id = some (match t with | .int => true | _ => false) := by intro t; cases t <;> decide +kernel
  have k4 : ∀ t : Ty, kitB "str" t.id = some (match t with | .str => true | _ => false) := by intro t; cases t <;> decide +kernel
  have k5 : ∀ t : Ty, kitB "tuple" t.id = some (match t with | .tuple => true | _ => false) := by intro t; cases t <;> decide +kernel
  have k6 : ∀ t : Ty, kitB "list" t.id = some (match t with | .list => true | _ => false) := by intro t; cases t <;> decide +kernel
  cases z with
  | non => cases h; exact k1 t
  | bl b => cases h; exact k2 t
  | int b => cases h; exact k3 t
  | str b => cases h; exact k4 t
  | tup b => cases h; exact k5 t
  | lst b => cases h; exact k6 t
  | dct f ks vs => cases h
  | dcT ks vs => cases h
theorem boot_ty (t : Ty) : bootBuiltins t.nm = some (.type t.id) := by
  cases t <;> decide +kernel
theorem snd_isi (C : Ctx T fn W cls d sc X) {a : Ex} {t : Ty} {l : Expr} {p p2 p3 : Pos} (h1 : blt T sc "isinstance" = true) (h2 : blt T sc t.nm = true) (ha : Snd T fn W cls X a l) (hl : plE l = true) :
    Snd T fn W cls X (.isi a t) (.Call (.Name "isinstance" p) [l, .Name t.nm p3] [] p2) := by
  obtain ⟨g1, g2, g3, g4⟩ := blt_ok C h1
  obtain ⟨k1, k2, k3, k4⟩ := blt_ok C h2
  have hty : PE X (.Name t.nm p3) (tC (.ty t.id)) := pe_bltn k1 k2 (boot_ty t) rfl k3 k4
  refine .of (pe_imp (pe_callB call_isi g1 g2 (by decide +kernel) (pa_cons ha.pe (pa_cons hty pa_nil) (plE_star hl)) g3 g4 (plE_star hl) rfl) fun σ H Q h => ?_) (fun _ => rfl) rfl
  obtain ⟨G, ρ, F, h⟩ := h
  refine seqE F h fun z1 v1 H1 G1 _ t1 F1 p1 h1 => ?_
  cases e : isiD t z1 with
  | exc c => exact absurd e (isiD_ne t z1 c)
  | bad => rw [e] at h1; exact h1.elim
  | ok b =>
    rw [e] at h1
    refine ⟨v1, .ty t.id, .type (tyD z1), .type t.id, b, rfl, .ty _, ty_of (p1.toB.rd F1.sub) ⟨fun f ks vs q => ?_, fun ks vs q => ?_⟩, kit_ty (kit_isi e), want_ok (v := .bl b) F1.ok h1 (Rp.bl b)⟩
    · subst q
      cases t <;> cases e
    · subst q
      cases t <;> cases e

/-! ### calls -/
theorem want_fr {f : Nat} {x : Str} {n : Nat} {fr : Bool} {es : Exs} (h : T.fns.lookup f = some (x, n, fr)) : kd T (.call f es) = if fr then .T else .S := by
  show (match T.fns.lookup f with | some (_, _, true) => Kd.T | _ => Kd.S) = _
  rw [h]
  cases fr <;> rfl
theorem RpL.pbl {K : PySem.W.Frag} {G H : Hp} {s : Bool} {vs : List V} {zs : List D} (h : if s then RpL K G vs zs else PBL K G H vs zs) : PBL K G H vs zs := by
  cases s with
  | false => exact h
  | true => exact PBL.of h
theorem snd_call (C : Ctx T fn W cls d sc X) {f : Nat} {x : Str} {n : Nat} {fr : Bool} {es : Exs} {l : Expr} {ls : List Expr} {p p2 : Pos} (hf : T.fns.lookup f = some (x, n, fr)) (hl : (l :: ls).length = n) (h1 : glB sc x = true) (h2 : nmB x = true)
    (ha : PA X (l :: ls) (tL T fn W cls X.K true es)) (hlen : ∀ ρ zs, evs fn es ρ = .ok zs → zs.length = (l :: ls).length) (hp : ∀ e ∈ l :: ls, plE e = true) : Snd T fn W cls X (.call f es) (.Call (.Name x p) (l :: ls) [] p2) := by
  obtain ⟨n1, n2, n3⟩ := nmB_ok h2
  obtain ⟨fa, fd, ps, k, hF, hr, hm, hk, hb⟩ := (C.fns f x n fr hf).ex
  have hst := plE_star (es := ls) (env := X.env) (hp l (by simp))
  have hpl : (backTo p2 (starEach ls X.env)).any (·.1) = false := any_back fun e he => hp e (List.mem_cons_of_mem _ he)
  refine .of (pe_imp (pe_callS hF hr (glB_ok h1 C.hs) hm hk hb (fun σ => passAt C.tk σ) ha n1 hst hpl) fun σ H Q h => ?_) (fun _ => rfl) rfl
  obtain ⟨G, ρ, F, h⟩ := h
  rw [want_fr hf] at h
  refine seqL F h fun zs vs H1 G1 e t1 F1 p1 h1 => ?_
  have p1 : RpL X.K G1 vs zs := p1
  refine ⟨by rw [p1.len, hlen ρ zs e]; exact hl, G1, zs, F1.ok, p1, ?_⟩
  cases e2 : fn f zs with
  | ok z => rw [e2] at h1; exact h1
  | exc c => rw [e2] at h1; exact h1
  | bad => rw [e2] at h1; exact h1
/-- the heap without what was own -/
def maskH (G H G2 : Hp) : Hp := fun b => match G b, H b with
  | none, some _ => none
  | _, _ => G2 b
mutual
theorem flat_mask {K : PySem.W.Frag} {G2 G' : Hp} (hs : ∀ a xs, SqT K G2 a xs → SqT K G' a xs) : ∀ {v : V} {z : D}, Rp K G2 v z → z.flat = true → Rp K G' v z
  | _, _, .non, _ => .non
  | _, _, .bl b, _ => .bl b
  | _, _, .int i, _ => .int i
  | _, _, .str x, _ => .str x
  | _, .tup ds, .tup h l, f => .tup (hs _ _ h) (flatL_mask hs l (by rw [D.flat] at f; exact f))
  | _, _, .lst h l, f => by simp [D.flat] at f
  | _, _, .dct h l, f => by simp [D.flat] at f
  | _, _, .dctL h l, f => by simp [D.flat] at f
  | _, _, .dcT h l, f => by simp [D.flat] at f
theorem flatL_mask {K : PySem.W.Frag} {G2 G' : Hp} (hs : ∀ a xs, SqT K G2 a xs → SqT K G' a xs) : ∀ {v : List V} {z : List D}, RpL K G2 v z → D.flatL z = true → RpL K G' v z
  | _, _, .nil, _ => .nil
  | _, d :: ds, .cons h l, f => by
    rw [D.flatL, Bool.and_eq_true] at f
    exact .cons (flat_mask hs h f.1) (flatL_mask hs l f.2)
end
theorem mask_stp {K : PySem.W.Frag} {G H G2 H2 : Hp} (ok : Ok2 G H) (t : Stp H H G2 H2) : Stp G H (maskH G H G2) H2 ∧ ∀ a xs, SqT K G2 a xs → SqT K (maskH G H G2) a xs := by
  have get : ∀ b o, maskH G H G2 b = some o → G2 b = some o := fun b o e => by
    unfold maskH at e
    split at e
    · cases e
    · exact e
  have out : ∀ b, (∀ o, G b = none → H b = some o → False) → maskH G H G2 b = G2 b := fun b h => by
    unfold maskH
    split
    · rename_i o h1 h2
      exact (h o h1 h2).elim
    · rfl
  refine ⟨⟨t.h, fun b o e => ?_, ⟨fun b o e => t.o.s b o (get b o e), fun b o e n => ?_⟩, fun b o e n => ?_⟩, fun a xs h => ?_⟩
  · rw [out b fun o' n _ => by rw [n] at e; cases e]
    exact t.g _ _ (ok.s _ _ e)
  · cases hg : G b with
    | some u =>
      rw [out b fun o' n' _ => by rw [hg] at n'; cases n'] at n
      have := t.g _ _ (ok.s _ _ hg)
      rw [n] at this
      cases this
    | none =>
      cases hh : H b with
      | some u =>
        have := t.h _ _ hh
        rw [e] at this
        cases this
        exact ok.z _ _ hh hg
      | none =>
        rw [out b fun o' _ h' => by rw [hh] at h'; cases h'] at n
        exact t.o.z _ _ e n
  · unfold maskH
    rw [n, e]
  · have key : ∀ o, G2 a = some o → ¬ Owb o → maskH G H G2 a = some o := fun o e no => by
      rw [out a fun u n hh => ?_]
      · exact e
      · have := t.g _ _ hh
        rw [e] at this
        cases this
        exact no (ok.z _ _ hh n)
    rcases h with (h | ⟨o, h⟩) | h
    · exact .inl (.inl (key _ h fun q => q))
    · exact .inl (.inr ⟨o, key _ h fun q => q⟩)
    · exact .inr h
theorem snd_callB (C : Ctx T fn W cls d sc X) {f : Nat} {x : Str} {n : Nat} {fr : Bool} {es : Exs} {l : Expr} {ls : List Expr} {p p2 : Pos} (hf : T.fns.lookup f = some (x, n, fr)) (hl : (l :: ls).length = n) (h1 : glB sc x = true) (h2 : nmB x = true)
    (ha : PA X (l :: ls) (tL T fn W cls X.K false es)) (hlen : ∀ ρ zs, evs fn es ρ = .ok zs → zs.length = (l :: ls).length) (hp : ∀ e ∈ l :: ls, plE e = true) : Snd T fn W cls X (.callB f es) (.Call (.Name x p) (l :: ls) [] p2) := by
  obtain ⟨n1, n2, n3⟩ := nmB_ok h2
  obtain ⟨fa, fd, ps, k, hF, hr, hm, hk, hb⟩ := (C.fns f x n fr hf).ex
  have hst := plE_star (es := ls) (env := X.env) (hp l (by simp))
  have hpl : (backTo p2 (starEach ls X.env)).any (·.1) = false := any_back fun e he => hp e (List.mem_cons_of_mem _ he)
  refine .of (pe_imp (pe_callS hF hr (glB_ok h1 C.hs) hm hk hb (fun σ => passAt C.tk σ) ha n1 hst hpl) fun σ H Q h => ?_) (fun _ => rfl) rfl
  obtain ⟨G, ρ, F, h⟩ := h
  have h : Want W cls X.K .S ((evs fn es ρ).bind fun ds => (fn f ds).bind fun z => .guard z.flat (.ok z)) G H σ Q := h
  refine seqL F h fun zs vs H1 G1 e t1 F1 p1 h1 => ?_
  have p1 : PBL X.K G1 H1 vs zs := p1
  have okH : Ok2 H1 H1 := ⟨Same.refl _, fun a o e n => by rw [e] at n; cases n⟩
  refine ⟨by rw [p1.len, hlen ρ zs e]; exact hl, H1, zs, okH, p1.rd F1.sub, ?_⟩
  cases e2 : fn f zs with
  | exc c =>
    rw [e2] at h1
    intro H2 G2 t2
    exact h1 H2 _ (mask_stp (K := X.K) F1.ok t2).1
  | bad => rw [e2] at h1; exact h1
  | ok z =>
    rw [e2] at h1
    obtain ⟨z', hz, q⟩ := want_pure (ne_guard ne_ok) h1
    obtain ⟨g1, g2⟩ := guard_ok hz
    cases g2
    intro v H2 G2 t2 pk
    obtain ⟨G3, t3, r3⟩ := pk.toS (by cases fr <;> exact fun q => nomatch q) t2
    obtain ⟨t4, hs⟩ := mask_stp (K := X.K) F1.ok t3
    exact q v H2 _ t4 (flat_mask hs r3 g1)
end
end Den
namespace Den
open PySem PySem.Spec PyProof.Rows L2
/-! ### a range beyond the small ones -/
theorem turn_long {P : Program} {w : World} {K : PySem.W.Frag} {tg : Expr} (it : Addr) (lo : Int) (n : Nat) : Turn P w K tg (L2.Itr lo n) [it] it (fun i h => IsLongIter h it (lo + (i : Nat) * 1) ((n : Int) - (i : Nat)) 1) where
  mem := by simp
  obj := fun i h st b hb => by
    have e : b = it := by simpa using hb
    subst e
    exact ⟨_, st, fun v z => nomatch z⟩
  keep := fun i h h' st k => k it (by simp) _ st
  item := by
    intro X hP hw hK hc i pins s σ H E I hf st hg
    subst hP hw hK
    obtain ⟨f0, f1, f2, f3, f4, f5⟩ := hf it (by simp)
    have W := Walks.longrange (prog := X.prog) (w := X.w) (I.ok.hd hc) it lo 1 n
    refine W.item i s _ _ hg st fun v h' tk hv st' kk => ?_
    obtain ⟨t, rfl⟩ := hv
    have I1 : Inv X pins σ H { s with heap := h', toks := tk } := I.turned (fun b o hb e => kk b o (by simpa using hb) e) f0 f1 f3 f4 f5
    exact ⟨_, rfl, go_of (s := { s with heap := h', toks := tk }) (n := "longrange_iterator") st' rfl rfl (by decide) ⟨.int (lo + (i : Nat) * 1), H, I1, ⟨t, rfl⟩, ⟨rfl, by simp⟩, st', fun b hb => (hf b hb).1⟩⟩
  done := by
    intro X hP hw hK hc i pins s σ H E I hf st hg
    subst hP hw hK
    obtain ⟨f0, f1, f2, f3, f4, f5⟩ := hf it (by simp)
    exact wpAny_pyNext_long_end (I.ok.hd hc) st (by have : n ≤ i := hg; omega) fun h' eb => ⟨rfl, I.turned (t' := s.toks) (fun b o hb e => eb b o hb e) f0 f1 f3 f4 f5⟩
  self := fun A i s Q E st h => wpAny_pyIter_longiter st h
theorem size_nat (a b : Int) : Builtin.Range.rangeSize a b 1 = ((b - a).toNat : Int) := by
  rw [rangeSize_one]; split <;> omega
theorem range_any {X : Cx} {tg : Expr} {pins : List (Addr × Obj)} {σ : L2.St} {H : Hp} {s : Shared} {R : It → Hp → Prop} {E : Value → Shared → Prop} {lo hi : Int} {t u v : Tok} {tk : Nat} (I : Inv X pins σ H s)
    (q : R (L2.Itr lo (hi - lo).toNat) H) : wpAny (model X.prog X.w) X.A (pyIter (.ref s.heap.objs.size)) (PIE X pins σ tg R) E { s with heap := s.heap.push { cls := .type "range", data := .fields #[.int lo t, .int hi u, .int 1 v] }, toks := tk } := by
  have I1 : Inv X pins σ H { s with heap := s.heap.push { cls := .type "range", data := .fields #[.int lo t, .int hi u, .int 1 v] }, toks := tk } := I.kept fun b o e => Heap.get?_push_of_some _ e
  have e1 : lo + ((0 : Nat) : Int) * 1 = lo := by simp
  have e2 : (((hi - lo).toNat : Nat) : Int) - ((0 : Nat) : Int) = Builtin.Range.rangeSize lo hi 1 := by rw [size_nat]; simp
  have fp : ∀ b ∈ [(s.heap.push { cls := .type "range", data := .fields #[.int lo t, .int hi u, .int 1 v] }).objs.size], FpOk X pins H b := fun b hb => by
    have e : b = (s.heap.push { cls := .type "range", data := .fields #[.int lo t, .int hi u, .int 1 v] }).objs.size := by simpa using hb
    subst e
    exact I1.fpOk (Nat.le_refl _) (I1.hok.fresh (Nat.le_refl _))
  cases hs : Builtin.Range.small lo hi 1 with
  | true =>
    refine wpAny_pyIter_range (IsRange.new ..) hs ?_
    refine ⟨_, [(s.heap.push { cls := .type "range", data := .fields #[.int lo t, .int hi u, .int 1 v] }).objs.size], _, _, H, rfl,
      I1.kept (t' := tk) fun b o e => Heap.get?_push_of_some _ e, turn_range _ lo (hi - lo).toNat, ?_, fp, q⟩
    show IsRangeIter _ _ (lo + ((0 : Nat) : Int) * 1) ((((hi - lo).toNat : Nat) : Int) - ((0 : Nat) : Int)) 1
    rw [e1, e2]
    exact Heap.get?_push_size _ rfl
  | false =>
    refine wpAny_pyIter_longrange (IsRange.new ..) hs ?_
    refine ⟨_, [(s.heap.push { cls := .type "range", data := .fields #[.int lo t, .int hi u, .int 1 v] }).objs.size], _, _, H, rfl,
      I1.kept (t' := tk) fun b o e => Heap.get?_push_of_some _ e, turn_long _ lo (hi - lo).toNat, ?_, fp, q⟩
    show IsLongIter _ _ (lo + ((0 : Nat) : Int) * 1) ((((hi - lo).toNat : Nat) : Int) - ((0 : Nat) : Int)) 1
    rw [e1, e2]
    exact Heap.get?_push_size _ rfl
def iRng2L (ta : TA) : TI := fun σ H R => ta σ H fun vs H1 => ∃ i j : Int, vs = [.int i, .int j] ∧ R (L2.Itr i (j - i).toNat) H1
theorem pi_range2L {X : Cx} {tg : Expr} {a b : Expr} {ta : TA} {p pos : Pos} (hg : Gl X "range") (hm : X.mg "range" = none) (ha : PA X [a, b] ta) (hs : starEach [a, b] X.env = [(false, eval a X.env), (false, eval b X.env)] := by rfl) (hs2 : starEach [b] X.env = [(false, eval b X.env)] := by rfl) :
    PI X tg (.Call (.Name "range" p) [a, b] [] pos) (iRng2L ta) := by
  refine ⟨fun pins s σ H R I h => ?_⟩
  refine Call_ (ld_blt I hg hm boot_range (PyProof.Rows.callWith_type1 (thn (ha.run pos pins s σ H _ I h) fun us s1 ⟨vs, H1, I1, r1, q1⟩ => ?_) (by rw [hs, hs2]) (by rw [hs2]; rfl)))
  obtain ⟨i, j, e, q⟩ := q1
  subst e
  cases r1 with
  | cons r rr =>
    cases rr with
    | cons r' rr =>
      cases rr
      obtain ⟨t, rfl⟩ := r
      obtain ⟨t', rfl⟩ := r'
      exact call_range_2 (range_any I1 q)
def iRng1L (ta : TA) : TI := fun σ H R => ta σ H fun vs H1 => ∃ j : Int, vs = [.int j] ∧ R (L2.Itr 0 j.toNat) H1
theorem pi_range1L {X : Cx} {tg : Expr} {a : Expr} {ta : TA} {p pos : Pos} (hg : Gl X "range") (hm : X.mg "range" = none) (ha : PA X [a] ta) (hs : starEach [a] X.env = [(false, eval a X.env)] := by rfl) :
    PI X tg (.Call (.Name "range" p) [a] [] pos) (iRng1L ta) := by
  refine ⟨fun pins s σ H R I h => ?_⟩
  refine Call_ (ld_blt I hg hm boot_range (PyProof.Rows.callWith_type1 (thn (ha.run pos pins s σ H _ I h) fun us s1 ⟨vs, H1, I1, r1, q1⟩ => ?_) hs rfl))
  obtain ⟨j, e, q⟩ := q1
  subst e
  cases r1 with
  | cons r rr =>
    cases rr
    obtain ⟨t, rfl⟩ := r
    refine call_range_1 (range_any (lo := 0) I1 ?_)
    rw [Int.sub_zero]
    exact q
/-! ### enumerate over a tuple -/
set_option maxHeartbeats 1000000 in
theorem meets_enum1 {x : Value} {ob : Obj} {Ok : Heap → Prop} (B : Begins x ob Ok) :
    Meets (Builtin.«enumerate.__new__» ⟨[.type "enumerate", x], []⟩) (fun _ R s => Ok s.heap ∧
      R (.ok (.ret (.ref (s.heap.push ob).objs.size))) { s with heap := (s.heap.push ob).push { cls := .type "enumerate", data := .fields #[.none, .bool false, .ref s.heap.objs.size, rawInt 0, .none, .none] } }) :=
  .of_wp fun prog w A R sh hyp => by
    obtain ⟨hq, gl, dd, tk1, os1⟩ := sh; obtain ⟨k1, kk⟩ := hyp
    have hsub := sub_enumerate
    have go1 : ∀ {A' : Around} {E : Value → Shared → Prop} {Q : Value → Shared → Prop}, Q (.ref hq.objs.size) ⟨hq.push ob, gl, dd, tk1, os1⟩ → wpAny (model prog w) A' (pyIter x) Q E ⟨hq, gl, dd, tk1, os1⟩ :=
      fun q => B.iter prog w _ _ ⟨hq, gl, dd, tk1, os1⟩ _ k1 q
    wp_walk using go1
    refine wpAny_stack_any fun st => wpAny_pure ?_
    split
    · rename_i cl _ _ _ _ _
      cases (cl == Value.type "enumerate")
      · wp_walk using go1
        exact ⟨_, rfl, kk⟩
      · wp_walk using go1
        exact ⟨_, rfl, kk⟩
    · wp_walk using go1
      exact ⟨_, rfl, kk⟩
theorem call_enum1 {prog : Program} {w : World} {A : Around} {E : Value → Shared → Prop} {s : Shared} {x : Value} {ob : Obj} {Ok : Heap → Prop} {Q : Value → Shared → Prop} (B : Begins x ob Ok) (k1 : Ok s.heap)
    (fin : ∀ g, IsEnum g (s.heap.objs.size + 1) s.heap.objs.size 0 .none → g.get? s.heap.objs.size = some ob → g.objs.size = s.heap.objs.size + 2 →
      (∀ b o, s.heap.get? b = some o → g.get? b = some o) → Q (.ref (s.heap.objs.size + 1)) { s with heap := g }) :
    wpAny (model prog w) A (call (.type "enumerate") [x]) Q E s := by
  refine callType_new F.called_enumerate (by decide) (F.typeCall_enumerate_1 _) (F.newCall_enumerate_1 _) (fun obj => F.args_object_init_2 obj _) F.entry_enumerate_new (meets_enum1 B) ⟨k1, ?_⟩
  have z1 : (s.heap.push ob).objs.size = s.heap.objs.size + 1 := Heap.size_push ..
  show _ ∧ _
  rw [z1]
  have en : IsEnum ((s.heap.push ob).push { cls := .type "enumerate", data := .fields #[.none, .bool false, .ref s.heap.objs.size, rawInt 0, .none, .none] }) (s.heap.objs.size + 1) s.heap.objs.size 0 .none := by
    have r := Heap.get?_push_size (s.heap.push ob) (o := { cls := .type "enumerate", data := .fields #[.none, .bool false, .ref s.heap.objs.size, rawInt 0, .none, .none] }) rfl
    rw [z1] at r
    exact r
  exact ⟨⟨_, en, rfl⟩, fin _ en (Heap.get?_push_of_some _ (Heap.get?_push_size _ B.free)) (by rw [Heap.size_push, z1]) fun b o y => Heap.get?_push_of_some _ (Heap.get?_push_of_some _ y)⟩
/-- the tuple at a, each item in a new pair -/
def ItEt (K : PySem.W.Frag) (a : Addr) : It :=
  ⟨fun i H => ∃ (xs : List V) (x : V), SqT K H a xs ∧ xs[i]? = some x, fun i H v H' => ∃ T x, v = .ref T ∧ H T = none ∧ H' = upd H T (.tup [.int (i : Nat), x]) ∧ ∀ xs, SqT K H a xs → xs[i]? = some x, fun i H => ∃ xs : List V, SqT K H a xs ∧ xs.length = i⟩
theorem turn_enumT {P : Program} {w : World} {K : PySem.W.Frag} {elts : List Expr} {kk : Nat} {tpos : Pos} (a e it : Addr) :
    Turn P w K (.Tuple elts kk tpos) (ItEt K a) [e, it] e (fun i h => (∃ old, IsEnum h e it ((i : Nat) : Int) old) ∧ h.IsTupleIter it a i ∧ e ≠ it) where
  mem := by simp
  obj := fun i h st b hb => by
    obtain ⟨⟨old, he⟩, ⟨o, ho, hc, hd⟩, _⟩ := st
    rcases (show b = e ∨ b = it by simpa using hb) with z | z
    · rw [z]; exact ⟨_, he, fun v q => nomatch q⟩
    · rw [z]; exact ⟨o, ho, fun v q => by rw [hd] at q; cases q⟩
  keep := fun i h h' st k => ⟨st.1.elim fun old he => ⟨old, k e (by simp) _ he⟩, st.2.1.at fun o q => k it (by simp) o q, st.2.2⟩
  item := by
    intro X hP hw hK hc i pins s σ H E I hf st hg
    subst hP hw hK
    obtain ⟨⟨old, he⟩, ti, ne⟩ := st
    obtain ⟨xs, x, hq, hx⟩ := hg
    obtain ⟨its, rv, p, hz⟩ := I.tuple hq
    obtain ⟨u, hu, ru⟩ := rv.get hx
    have le : e < s.heap.objs.size := Heap.lt_size he
    have li : it < s.heap.objs.size := by obtain ⟨_, q, _⟩ := ti; exact Heap.lt_size q
    have pt : s.heap.IsTuple a its.toArray := p
    have na : a ≠ it := fun z => by
      obtain ⟨o1, q1, c1, d1⟩ := ti
      obtain ⟨o2, q2, c2, _⟩ := pt
      rw [z, q1] at q2
      cases q2
      rw [c1] at c2
      exact absurd (Value.type.inj c2) (by decide)
    have nea : e ≠ a := fun z => by
      obtain ⟨o2, q2, c2, _⟩ := pt
      have he' : s.heap.get? e = _ := he
      rw [z, q2] at he'
      cases he'
      exact absurd (Value.type.inj c2) (by decide)
    have il : i < its.toArray.size := by
      have := (List.getElem?_eq_some_iff.mp hu).1
      simpa using this
    refine wpAny_pyNext_enum_itemD (Draws.tuple (by exact I.ok.hd hc) it a na its.toArray) he ⟨ti, pt⟩ il ne (by simp [ne, nea]) fun x2 h' tk hx2 ho st2 hT hsz hk => ?_
    have hu2 : x2 = u := by
      have q1 : its.toArray[i]? = some u := by simpa using hu
      rw [hx2] at q1
      exact Option.some.inj q1
    subst hu2
    refine ⟨_, rfl, wpAny_letOwnedTupleGo_enum (s := { s with heap := h', toks := tk + 1 }) ho fun h2 he2 sb => ?_⟩
    have t2 : h2.get? s.heap.objs.size = some { cls := .type "tuple", data := .seq #[.int i tk, x2] } := (sb.2 _ (Nat.ne_of_gt le)).trans hT
    have nw : ObjOk X.prog X.w (upd H s.heap.objs.size (.tup [.int (i : Nat), x])) h2 s.heap.objs.size (.tup [.int (i : Nat), x]) :=
      ⟨by show 2 ≤ sizeLine; decide, [.int i tk, x2], .cons ⟨_, rfl⟩ (.cons ru .nil), ⟨_, t2, rfl, _, rfl⟩⟩
    have I1 : Inv X pins σ (upd H s.heap.objs.size (.tup [.int (i : Nat), x])) { s with heap := h2, toks := tk + 1 } :=
      I.turnedNew (ch := [e, it]) (fun b ob hb q => (sb.2 b (fun z => hb (by simp [z]))).trans (hk b ob (fun z => hb (by simp [z])) (fun z => hb (by simp [z])) q)) hf (Nat.le_refl _) nw
    refine ⟨.ref s.heap.objs.size, _, I1, rfl, ⟨_, x, rfl, I.hok.fresh (Nat.le_refl _), rfl, fun ys hy => by rw [I.tuple_inj hy hq]; exact hx⟩, ⟨⟨x2, ?_⟩, st2.1.at fun o q => (sb.2 it (Ne.symm ne)).trans q, ne⟩, fun b hb => ?_⟩
    · rw [show ((i + 1 : Nat) : Int) = (i : Int) + 1 by omega]; exact he2
    · have lb : b < s.heap.objs.size := by
        rcases (show b = e ∨ b = it by simpa using hb) with z | z
        · rw [z]; exact le
        · rw [z]; exact li
      rw [upd_ne (Nat.ne_of_lt lb)]
      exact (hf b hb).1
  done := by
    intro X hP hw hK hc i pins s σ H E I hf st hg
    subst hP hw hK
    obtain ⟨⟨old, he⟩, ti, ne⟩ := st
    obtain ⟨xs, hq, hx⟩ := hg
    obtain ⟨its, rv, p, hz⟩ := I.tuple hq
    have pt : s.heap.IsTuple a its.toArray := p
    have na : a ≠ it := fun z => by
      obtain ⟨o1, q1, c1, d1⟩ := ti
      obtain ⟨o2, q2, c2, _⟩ := pt
      rw [z, q1] at q2
      cases q2
      rw [c1] at c2
      exact absurd (Value.type.inj c2) (by decide)
    have hl := rv.length
    have sz : its.toArray.size = i := by simp; omega
    obtain ⟨f0, f1, f2, f3, f4, f5⟩ := hf it (by simp)
    exact wpAny_pyNext_enum_endD (Draws.tuple (by exact I.ok.hd hc) it a na its.toArray) he ⟨by rw [sz]; exact ti, pt⟩ fun h' eb => ⟨rfl, I.turned (t' := s.toks) (fun b o hb q => eb b o hb q) f0 f1 f3 f4 f5⟩
  self := fun A i s Q E st h => st.1.elim fun _ he => wpAny_pyIter_enum he h
def iEnumA (K : PySem.W.Frag) (ta : TA) : TI := fun σ H R => ta σ H fun vs H1 => ∃ a xs, vs = [.ref a] ∧ ((SqL K H1 a xs ∧ R (Ite K a) H1) ∨ (SqT K H1 a xs ∧ R (ItEt K a) H1))
theorem pi_enumA {X : Cx} {e : Expr} {ta : TA} {p pos tpos : Pos} {elts : List Expr} {kk : Nat} (hg : Gl X "enumerate") (hm : X.mg "enumerate" = none) (ha : PA X [e] ta) (hs : starEach [e] X.env = [(false, eval e X.env)] := by rfl) :
    PI X (.Tuple elts kk tpos) (.Call (.Name "enumerate" p) [e] [] pos) (iEnumA X.K ta) := by
  refine ⟨fun pins s σ H R I h => ?_⟩
  refine Call_ (ld_blt I hg hm boot_enumerate (PyProof.Rows.callWith_type1 (thn (ha.run pos pins s σ H _ I h) fun us s1 ⟨vs, H1, I1, r1, q1⟩ => ?_) hs rfl))
  obtain ⟨a, xs, ex, q1⟩ := q1
  subst ex
  cases r1 with
  | cons r rr =>
    cases rr
    cases r
    have new : ∀ b ∈ [s1.heap.objs.size + 1, s1.heap.objs.size], FpOk X pins H1 b := fun b hb => by
      have le : s1.heap.objs.size ≤ b := by
        rcases (show b = s1.heap.objs.size + 1 ∨ b = s1.heap.objs.size by simpa using hb) with z | z
        · rw [z]; exact Nat.le_add_right _ _
        · rw [z]; exact Nat.le_refl _
      exact I1.fpOk le (I1.hok.fresh le)
    rcases q1 with ⟨hq, q⟩ | ⟨hq, q⟩
    · obtain ⟨its, rv, p', hz⟩ := I1.list hq
      refine call_enumerate_list p'.isList fun h' he hit hsz hk => wpAny_pyIter_enum he ?_
      have I2 : Inv X pins σ H1 { s1 with heap := h' } := I1.kept (t' := s1.toks) hk
      exact ⟨s1.heap.objs.size + 1, [s1.heap.objs.size + 1, s1.heap.objs.size], _, _, H1, rfl, I2, turn_enum a (s1.heap.objs.size + 1) s1.heap.objs.size, ⟨⟨.none, he⟩, hit, Nat.succ_ne_self _⟩, new, q⟩
    · obtain ⟨its, rv, p', hz⟩ := I1.tuple hq
      refine call_enum1 (begins_tuple a its.toArray) p' fun h' he hit hsz hk => wpAny_pyIter_enum he ?_
      have I2 : Inv X pins σ H1 { s1 with heap := h' } := I1.kept (t' := s1.toks) hk
      exact ⟨s1.heap.objs.size + 1, [s1.heap.objs.size + 1, s1.heap.objs.size], _, _, H1, rfl, I2, turn_enumT a (s1.heap.objs.size + 1) s1.heap.objs.size, ⟨⟨.none, he⟩, ⟨_, hit, rfl, rfl⟩, Nat.succ_ne_self _⟩, new, q⟩
section
variable {T : Tbl} {fn : Nat → List D → R D} {W : WX} {cls : Nat → Value} {d : Bool} {sc : Scope} {X : Cx} {K : PySem.W.Frag}

/-! ### what is walked -/
/-- a sequence behind an expression: it stands wherever what is shared stands (an own one: wherever the heap stands) -/
structure SeqAt' (K : PySem.W.Frag) (nb : Bool) (G1 H1 : Hp) (a : Addr) (xs : List V) (ds : List D) (l : Bool) : Prop where
  rp : RpL K G1 xs ds
  at_ : ∀ G2 H2, Same G1 G2 → Same G2 H2 → (nb = true ∨ Same H1 H2) → if l then SqL K H2 a xs else SqT K H2 a xs
theorem seq_of {k : Kd} {G H G1 H1 : Hp} {v : V} {z : D} {ds : List D} {l : Bool} (hz : z = if l then .lst ds else .tup ds) (nb : Bool) (hk : nb = true → k ≠ .B) (t : Stp G H G1 H1) (p : PK k K G H G1 H1 v z) :
    ∃ G3 a xs, Stp G H G3 H1 ∧ v = .ref a ∧ SeqAt' K nb G3 H1 a xs ds l ∧ ∀ b o, G1 b = some o → G3 b = some o := by
  have shared : ∀ G3, Stp G H G3 H1 → (∀ b o, G1 b = some o → G3 b = some o) → Rp K G3 v z → ∃ G3 a xs, Stp G H G3 H1 ∧ v = .ref a ∧ SeqAt' K nb G3 H1 a xs ds l ∧ ∀ b o, G1 b = some o → G3 b = some o := fun G3 t3 hg r => by
    cases l with
    | true =>
      subst hz
      obtain ⟨a, xs, e, h1, h2⟩ := lst_inv r
      exact ⟨G3, a, xs, t3, e, ⟨h2, fun G2 H2 s1 s2 _ => (s1.trans s2).seq h1⟩, hg⟩
    | false =>
      subst hz
      obtain ⟨a, xs, e, h1, h2⟩ := tup_inv r
      exact ⟨G3, a, xs, t3, e, ⟨h2, fun G2 H2 s1 s2 _ => seqT (s1.trans s2) h1⟩, hg⟩
  cases nb with
  | true =>
    have hk := hk rfl
    cases k with
    | B => exact absurd rfl hk
    | S => exact shared G1 t (fun _ _ e => e) p
    | T =>
      obtain ⟨a, o, rfl, n, ho, hg, r⟩ := p
      exact shared _ (t.freeze n hg ho) (fun b o' e => same_upd hg _ _ e) (r.freeze hg)
  | false =>
    have p := p.toB
    rcases p with p | ⟨a, o, rfl, ho, hg, r⟩
    · exact shared G1 t (fun _ _ e => e) p
    · cases l with
      | true =>
        subst hz
        cases r with
        | lst r => exact ⟨G1, a, _, t, rfl, ⟨r, fun G2 H2 _ _ h => by
            rcases h with h | h
            · cases h
            · exact SqL.of (h _ _ ho)⟩, fun _ _ e => e⟩
      | false =>
        subst hz
        cases r
theorem items_cases {z : D} {ds : List D} (h : items z = .ok ds) : ∃ l : Bool, z = if l then .lst ds else .tup ds := by
  cases z with
  | lst xs => cases h; exact ⟨true, rfl⟩
  | tup xs => cases h; exact ⟨false, rfl⟩
  | _ => cases h
theorem wantI_seq {a : Ex} {nb : Bool} {f : D → R (List D)} {G H : Hp} {ρ : Env} {σ : L2.St} {Q : It → Hp → Prop} {P : VK} (F : FI K T.isOwn G ρ σ H) (h : WantI W cls K nb ((ev fn a ρ).bind f) G H σ Q)
    (q : ∀ z v H1 G1, ev fn a ρ = .ok z → Stp G H G1 H1 → FI K T.isOwn G1 ρ σ H1 → PK (kd T a) K G H G1 H1 v z → WantI W cls K nb (f z) G1 H1 σ Q → P v H1) : tE T fn W cls K a σ H P := by
  refine ⟨G, ρ, F, ?_⟩
  cases e : ev fn a ρ with
  | ok z =>
    rw [e] at h
    exact fun v H' G' t p => q z v H' G' e t (F.step t) p (WantI.shift t h)
  | exc c => rw [e] at h; exact h
  | bad => rw [e] at h; exact h
theorem wantI_ok {nb : Bool} {r : R (List D)} {G H : Hp} {σ : L2.St} {Q : It → Hp → Prop} (hn : ∀ c, r ≠ .exc c) (h : WantI W cls K nb r G H σ Q) :
    ∃ zs, r = .ok zs ∧ ∀ J H' G', Stp G H G' H' → Yields K (fun H2 => nb = true ∨ Same H' H2) J zs G' → Q J H' := by
  cases r with
  | ok z => exact ⟨z, rfl, h⟩
  | exc c => exact absurd rfl (hn c)
  | bad => exact h.elim
theorem items_ne (z : D) : ∀ c, items z ≠ .exc c := by
  cases z <;> first | exact ne_ok | exact ne_bad
theorem itemsL_ne (z : D) : ∀ c, itemsL z ≠ .exc c := by
  cases z <;> first | exact ne_ok | exact ne_bad
theorem zipD_ne (z y : D) : ∀ c, zipD z y ≠ .exc c := by
  unfold zipD
  split <;> first | exact ne_ok | exact ne_bad
theorem nB_imp {a : Ex} (h : nB T a = true) : kd T a ≠ .B := nB_ne h
/-- a list, a tuple walked gives its items -/
theorem yields_seq {nb : Bool} {G1 H1 : Hp} {a : Addr} {xs : List V} {ds : List D} {l : Bool} (s : SeqAt' K nb G1 H1 a xs ds l) : Yields K (fun H2 => nb = true ∨ Same H1 H2) (if l then Itl K a else Itt K a) ds G1 := by
  intro G H sg ok hk
  have hs := s.at_ G H sg ok.s hk
  have hl := s.rp.len
  cases l with
  | true =>
    refine ⟨fun i z e => ?_, xs, hs, by omega⟩
    obtain ⟨v, e1, r⟩ := s.rp.get e
    refine ⟨⟨xs, v, hs, e1⟩, fun x H' y => ?_⟩
    obtain ⟨rfl, y⟩ := y
    have := y xs hs
    rw [e1] at this
    cases this
    exact ⟨G, Stp.refl ok, r.mono sg⟩
  | false =>
    refine ⟨fun i z e => ?_, xs, hs, by omega⟩
    obtain ⟨v, e1, r⟩ := s.rp.get e
    refine ⟨⟨xs, v, hs, e1⟩, fun x H' y => ?_⟩
    obtain ⟨rfl, y⟩ := y
    have := y xs hs
    rw [e1] at this
    cases this
    exact ⟨G, Stp.refl ok, r.mono sg⟩
theorem pi_seq (C : Ctx T fn W cls d sc X) {a : Ex} {g e : Expr} (ha : Snd T fn W cls X a e) : PI X g e (tIt T fn W cls X.K (.seq a)) := by
  refine pi_ex fun σ H R h => ?_
  obtain ⟨G, ρ, F, h⟩ := h
  have h : WantI W cls X.K (nB T a) ((ev fn a ρ).bind items) G H σ R := h
  cases e1 : ev fn a ρ with
  | exc c =>
    rw [e1] at h
    refine ⟨_, pi_list ha.pe, G, ρ, F, ?_⟩
    rw [e1]
    exact h
  | bad => rw [e1] at h; exact h.elim
  | ok z =>
    obtain ⟨ds, hd, q⟩ := wantI_ok (ne_bind (by rw [e1]; exact ne_ok) items_ne) h
    rw [e1] at hd
    obtain ⟨l, hz⟩ := items_cases hd
    cases l with
    | true =>
      refine ⟨_, pi_list ha.pe, ?_⟩
      refine wantI_seq F h fun z1 v H1 G1 e2 t1 F1 p1 _ => ?_
      rw [e1] at e2
      cases e2
      obtain ⟨G3, b, xs, t3, e3, s, _⟩ := seq_of hz (nB T a) nB_imp t1 p1
      exact ⟨b, e3, ⟨xs, s.at_ G3 H1 (Same.refl _) t3.s (.inr (Same.refl _))⟩, q _ _ _ t3 (yields_seq s)⟩
    | false =>
      refine ⟨_, pi_tup ha.pe, ?_⟩
      refine wantI_seq F h fun z1 v H1 G1 e2 t1 F1 p1 _ => ?_
      rw [e1] at e2
      cases e2
      obtain ⟨G3, b, xs, t3, e3, s, _⟩ := seq_of hz (nB T a) nB_imp t1 p1
      exact ⟨b, e3, ⟨xs, s.at_ G3 H1 (Same.refl _) t3.s (.inr (Same.refl _))⟩, q _ _ _ t3 (yields_seq s)⟩
theorem upto_get : ∀ {n i : Nat} {lo : Int} {z : D}, (upto lo n)[i]? = some z → i < n ∧ z = .int (lo + i)
  | 0, i, lo, z, h => by simp [upto] at h
  | n + 1, 0, lo, z, h => by
    simp only [upto, List.getElem?_cons_zero, Option.some.injEq] at h
    subst h
    exact ⟨Nat.succ_pos _, by simp⟩
  | n + 1, i + 1, lo, z, h => by
    simp only [upto, List.getElem?_cons_succ] at h
    obtain ⟨h1, h2⟩ := upto_get h
    refine ⟨by omega, ?_⟩
    rw [h2]
    congr 1
    omega
theorem upto_len : ∀ (n : Nat) (lo : Int), (upto lo n).length = n
  | 0, _ => rfl
  | n + 1, lo => by rw [upto, List.length_cons, upto_len n]
theorem upby_get : ∀ {n i : Nat} {lo c : Int} {z : D}, (upby lo c n)[i]? = some z → i < n ∧ z = .int (lo + i * c)
  | 0, i, lo, c, z, h => by simp [upby] at h
  | n + 1, 0, lo, c, z, h => by
    simp only [upby, List.getElem?_cons_zero, Option.some.injEq] at h
    subst h
    exact ⟨Nat.succ_pos _, by simp⟩
  | n + 1, i + 1, lo, c, z, h => by
    simp only [upby, List.getElem?_cons_succ] at h
    obtain ⟨h1, h2⟩ := upby_get h
    refine ⟨by omega, ?_⟩
    rw [h2]
    congr 1
    have : ((i + 1 : Nat) : Int) * c = i * c + c := by rw [Int.natCast_succ, Int.add_mul, Int.one_mul]
    omega
theorem upby_len : ∀ (n : Nat) (lo c : Int), (upby lo c n).length = n
  | 0, _, _ => rfl
  | n + 1, lo, c => by rw [upby, List.length_cons, upby_len n]
theorem yields_rng {Kp : Hp → Prop} {lo : Int} {n : Nat} {G0 : Hp} : Yields K Kp (L2.Itr lo n) (upto lo n) G0 := by
  intro G H sg ok hk
  refine ⟨fun i z e => ?_, ?_⟩
  · obtain ⟨h1, rfl⟩ := upto_get e
    refine ⟨h1, fun x H' y => ?_⟩
    obtain ⟨rfl, rfl⟩ := y
    exact ⟨G, Stp.refl ok, .int _⟩
  · rw [upto_len]
    exact Nat.le_refl _
theorem yields_rngC {Kp : Hp → Prop} {lo c : Int} {n : Nat} {G0 : Hp} : Yields K Kp (Itc lo c n) (upby lo c n) G0 := by
  intro G H sg ok hk
  refine ⟨fun i z e => ?_, ?_⟩
  · obtain ⟨h1, rfl⟩ := upby_get e
    refine ⟨h1, fun x H' y => ?_⟩
    obtain ⟨rfl, rfl⟩ := y
    exact ⟨G, Stp.refl ok, .int _⟩
  · rw [upby_len]
    exact Nat.le_refl _
theorem wantI_int {nb : Bool} {f : Int → R (List D)} {G H : Hp} {σ : L2.St} {Q : It → Hp → Prop} {z : D} (h : WantI W cls K nb ((asInt z).bind f) G H σ Q) : ∃ b, z = .int b ∧ WantI W cls K nb (f b) G H σ Q := by
  cases z with
  | int b => exact ⟨b, rfl, h⟩
  | _ => exact h.elim
theorem pi_rng1 (C : Ctx T fn W cls d sc X) {a : Ex} {g l : Expr} {p p2 : Pos} (hb : blt T sc "range" = true) (ha : Snd T fn W cls X a l) (hl : plE l = true) : PI X g (.Call (.Name "range" p) [l] [] p2) (tIt T fn W cls X.K (.rng1 a)) := by
  obtain ⟨g1, g2, g3, g4⟩ := blt_ok C hb
  refine pi_imp (pi_range1L g1 g2 (pa_cons ha.pe pa_nil (plE_star hl)) (plE_star hl)) fun σ H R h => ?_
  obtain ⟨G, ρ, F, h⟩ := h
  refine wantI_seq F h fun z v H1 G1 _ t1 F1 p1 h1 => ?_
  obtain ⟨j, e4, h1⟩ := wantI_int h1
  subst e4
  obtain ⟨zs, hz, q⟩ := wantI_ok ne_ok h1
  cases hz
  exact ⟨j, by rw [p1.int], q _ _ _ (Stp.refl F1.ok) yields_rng⟩
theorem pi_rng2 (C : Ctx T fn W cls d sc X) {a b : Ex} {g l m : Expr} {p p2 : Pos} (hb : blt T sc "range" = true) (ha : Snd T fn W cls X a l) (hl : plE l = true) (ha2 : Snd T fn W cls X b m) (hm : plE m = true) :
    PI X g (.Call (.Name "range" p) [l, m] [] p2) (tIt T fn W cls X.K (.rng2 a b)) := by
  obtain ⟨g1, g2, g3, g4⟩ := blt_ok C hb
  refine pi_imp (pi_range2L g1 g2 (pa_cons ha.pe (pa_cons ha2.pe pa_nil (plE_star hm)) (plE_star hl)) (by rw [plE_star hl, plE_star hm]; rfl) (by rw [plE_star hm]; rfl)) fun σ H R h => ?_
  obtain ⟨G, ρ, F, h⟩ := h
  refine wantI_seq F h fun z v H1 G1 _ t1 F1 p1 h1 => ?_
  refine wantI_seq F1 h1 fun z2 v2 H2 G2 _ t2 F2 p2 h2 => ?_
  obtain ⟨i, e4, h4⟩ := wantI_int h2
  obtain ⟨j, e5, h5⟩ := wantI_int h4
  subst e4 e5
  obtain ⟨zs, hz, q⟩ := wantI_ok ne_ok h5
  cases hz
  exact ⟨i, j, by rw [p1.int, p2.int], q _ _ _ (Stp.refl F2.ok) yields_rng⟩
theorem pi_rng3 (C : Ctx T fn W cls d sc X) {a b c : Ex} {g l m r : Expr} {p p2 : Pos} (hb : blt T sc "range" = true) (ha : Snd T fn W cls X a l) (hl : plE l = true) (ha2 : Snd T fn W cls X b m) (hm : plE m = true) (ha3 : Snd T fn W cls X c r) (hr : plE r = true) :
    PI X g (.Call (.Name "range" p) [l, m, r] [] p2) (tIt T fn W cls X.K (.rng3 a b c)) := by
  obtain ⟨g1, g2, g3, g4⟩ := blt_ok C hb
  refine pi_imp (pi_range3 g1 g2 (pa_cons ha.pe (pa_cons ha2.pe (pa_cons ha3.pe pa_nil (plE_star hr)) (plE_star hm)) (plE_star hl)) (plE_star hl) (by rw [plE_star hm, plE_star hr]; rfl)) fun σ H R h => ?_
  obtain ⟨G, ρ, F, h⟩ := h
  refine wantI_seq F h fun z v H1 G1 _ t1 F1 p1 h1 => ?_
  refine wantI_seq F1 h1 fun z2 v2 H2 G2 _ t2 F2 p2 h2 => ?_
  refine wantI_seq F2 h2 fun z3 v3 H3 G3 _ t3 F3 p3 h3 => ?_
  obtain ⟨i, e4, h4⟩ := wantI_int h3
  obtain ⟨j, e5, h5⟩ := wantI_int h4
  obtain ⟨k, e6, h6⟩ := wantI_int h5
  subst e4 e5 e6
  obtain ⟨zs, hz, q⟩ := wantI_ok (ne_guard ne_ok) h6
  obtain ⟨k1, k2⟩ := guard_ok hz
  cases k2
  rw [Bool.and_eq_true, Bool.and_eq_true, Bool.and_eq_true, decide_eq_true_eq, decide_eq_true_eq, decide_eq_true_eq] at k1
  exact ⟨i, j, k, _, by rw [p1.int, p2.int, p3.int], ⟨k1.1.1.1, k1.1.1.2, k1.1.2, by rw [Int.toNat_of_nonneg k1.2]⟩, q _ _ _ (Stp.refl F3.ok) yields_rngC⟩
theorem enumL_get : ∀ {ds : List D} {k i : Nat} {z : D}, (enumL k ds)[i]? = some z → ∃ e, ds[i]? = some e ∧ z = .tup [.int ((k + i : Nat) : Int), e]
  | [], k, i, z, h => by simp [enumL] at h
  | x :: r, k, 0, z, h => by
    simp only [enumL, List.getElem?_cons_zero, Option.some.injEq] at h
    subst h
    exact ⟨x, rfl, rfl⟩
  | x :: r, k, i + 1, z, h => by
    simp only [enumL, List.getElem?_cons_succ] at h
    obtain ⟨e, h1, h2⟩ := enumL_get h
    refine ⟨e, by simpa using h1, ?_⟩
    rw [h2]
    have : k + 1 + i = k + (i + 1) := by omega
    rw [this]
theorem enumL_len : ∀ (ds : List D) (k : Nat), (enumL k ds).length = ds.length
  | [], _ => rfl
  | x :: r, k => by rw [enumL, List.length_cons, List.length_cons, enumL_len r]
theorem zipL_get : ∀ {ds es : List D} {i : Nat} {z : D}, (zipL ds es)[i]? = some z → ∃ x y, ds[i]? = some x ∧ es[i]? = some y ∧ z = .tup [x, y]
  | [], _, i, z, h => by simp [zipL] at h
  | _ :: _, [], i, z, h => by simp [zipL] at h
  | x :: r, y :: r', 0, z, h => by
    simp only [zipL, List.getElem?_cons_zero, Option.some.injEq] at h
    subst h
    exact ⟨x, y, rfl, rfl, rfl⟩
  | x :: r, y :: r', i + 1, z, h => by
    simp only [zipL, List.getElem?_cons_succ] at h
    obtain ⟨e, f, h1, h2, h3⟩ := zipL_get h
    exact ⟨e, f, by simpa using h1, by simpa using h2, h3⟩
theorem zipL_len : ∀ (ds es : List D), (zipL ds es).length = min ds.length es.length
  | [], _ => by simp [zipL]
  | _ :: _, [] => by simp [zipL]
  | x :: r, y :: r' => by
    rw [zipL, List.length_cons, List.length_cons, List.length_cons, zipL_len r r']
    omega
theorem pi_enm (C : Ctx T fn W cls d sc X) {a : Ex} {es : List Expr} {kk : Nat} {tp : Pos} {l : Expr} {p p2 : Pos} (hb : blt T sc "enumerate" = true) (ha : Snd T fn W cls X a l) (hl : plE l = true) :
    PI X (.Tuple es kk tp) (.Call (.Name "enumerate" p) [l] [] p2) (tIt T fn W cls X.K (.enum a)) := by
  obtain ⟨g1, g2, g3, g4⟩ := blt_ok C hb
  refine pi_imp (pi_enumA g1 g2 (pa_cons ha.pe pa_nil (plE_star hl)) (plE_star hl)) fun σ H R h => ?_
  obtain ⟨G, ρ, F, h⟩ := h
  refine wantI_seq F h fun z v H1 G1 ez t1 F1 p1 h1 => ?_
  have h0 : WantI W cls X.K (nBI T (.enum a)) ((ev fn a ρ).bind fun x => (items x).bind fun xs => .ok (enumL 0 xs)) G H σ R := h
  cases z with
  | lst ds =>
    obtain ⟨G3, b, xs, t3, e3, s, _⟩ := seq_of (l := true) rfl (nB T a) nB_imp t1 p1
    subst e3
    refine ⟨b, xs, rfl, .inl ⟨s.at_ G3 H1 (Same.refl _) t3.s (.inr (Same.refl _)), ?_⟩⟩
    have h3 : WantI W cls X.K (nB T a) (.ok (enumL 0 ds)) G H σ R := by
      rw [ez] at h0
      exact h0
    refine h3 _ _ _ t3 fun G4 H4 sg ok hk => ?_
    have hs := s.at_ G4 H4 sg ok.s hk
    have hs : SqL X.K H4 b xs := hs
    have hlen := s.rp.len
    refine ⟨fun i z e => ?_, xs, hs, by rw [enumL_len]; omega⟩
    obtain ⟨w, e1, rfl⟩ := enumL_get e
    obtain ⟨v, e4, r⟩ := s.rp.get e1
    refine ⟨⟨xs, v, hs, e4⟩, fun x H' y => ?_⟩
    obtain ⟨T', x', rfl, hn, rfl, y⟩ := y
    have := y xs hs
    rw [e4] at this
    cases this
    refine ⟨_, Stp.newS ok hn, .tup (SqT.of upd_same) (.cons ?_ (.cons ((r.mono sg).mono (same_upd (ok.s.free hn))) .nil))⟩
    rw [Nat.zero_add]
    exact .int _
  | tup ds =>
    obtain ⟨G3, b, xs, t3, e3, s, _⟩ := seq_of (l := false) rfl (nB T a) nB_imp t1 p1
    subst e3
    refine ⟨b, xs, rfl, .inr ⟨s.at_ G3 H1 (Same.refl _) t3.s (.inr (Same.refl _)), ?_⟩⟩
    have h3 : WantI W cls X.K (nB T a) (.ok (enumL 0 ds)) G H σ R := by
      rw [ez] at h0
      exact h0
    refine h3 _ _ _ t3 fun G4 H4 sg ok hk => ?_
    have hs := s.at_ G4 H4 sg ok.s hk
    have hs : SqT X.K H4 b xs := hs
    have hlen := s.rp.len
    refine ⟨fun i z e => ?_, xs, hs, by rw [enumL_len]; omega⟩
    obtain ⟨w, e1, rfl⟩ := enumL_get e
    obtain ⟨v, e4, r⟩ := s.rp.get e1
    refine ⟨⟨xs, v, hs, e4⟩, fun x H' y => ?_⟩
    obtain ⟨T', x', rfl, hn, rfl, y⟩ := y
    have := y xs hs
    rw [e4] at this
    cases this
    refine ⟨_, Stp.newS ok hn, .tup (SqT.of upd_same) (.cons ?_ (.cons ((r.mono sg).mono (same_upd (ok.s.free hn))) .nil))⟩
    rw [Nat.zero_add]
    exact .int _
  | _ => exact h1.elim
theorem pi_zp (C : Ctx T fn W cls d sc X) {a b : Ex} {es : List Expr} {kk : Nat} {tp : Pos} {l m : Expr} {p p2 : Pos} (hb : blt T sc "zip" = true) (ha : Snd T fn W cls X a l) (hl : plE l = true) (ha2 : Snd T fn W cls X b m) (hm : plE m = true) :
    PI X (.Tuple es kk tp) (.Call (.Name "zip" p) [l, m] [] p2) (tIt T fn W cls X.K (.zip a b)) := by
  obtain ⟨g1, g2, g3, g4⟩ := blt_ok C hb
  refine pi_imp (RZ.pi_zipA g1 g2 (pa_cons ha.pe (pa_cons ha2.pe pa_nil (plE_star hm)) (plE_star hl)) (plE_star hl) (by rw [plE_star hm]; rfl)) fun σ H R h => ?_
  obtain ⟨G, ρ, F, h⟩ := h
  refine wantI_seq F h fun z v H1 G1 ez1 t1 F1 p1 h1 => ?_
  refine wantI_seq F1 h1 fun z2 v2 H2 G2 ez2 t2 F2 p2 h2 => ?_
  obtain ⟨zs, hz, q⟩ := wantI_ok (zipD_ne z z2) h2
  have both : ∀ (dl : Bool) (ds ds2 : List D), z = (if dl then .lst ds else .tup ds) → z2 = (if dl then .lst ds2 else .tup ds2) → zs = zipL ds ds2 →
      ∃ (c c2 : Addr) (xs ys : List V), [v, v2] = [.ref c, .ref c2] ∧ ((SqL X.K H2 c xs ∧ SqL X.K H2 c2 ys ∧ R (Itz X.K c c2) H2) ∨ (SqT X.K H2 c xs ∧ SqT X.K H2 c2 ys ∧ R (RZ.ItzT X.K c c2) H2)) := by
    intro dl ds ds2 e1 e2 ez
    have nb1 : (nB T a && nB T b) = true → kd T a ≠ .B := fun h => nB_imp (by rw [Bool.and_eq_true] at h; exact h.1)
    have nb2 : (nB T a && nB T b) = true → kd T b ≠ .B := fun h => nB_imp (by rw [Bool.and_eq_true] at h; exact h.2)
    obtain ⟨G3, c, xs, t3, e3, s, hg3⟩ := seq_of (l := dl) e1 (nB T a && nB T b) nb1 (t1.trans t2) (p1.mono t2)
    -- the second one, over what the first one froze
    have p2' : PK (kd T b) X.K G1 H1 G2 H2 v2 z2 := p2
    obtain ⟨G4, c2, ys, t4, e4, s2, hg4⟩ : ∃ G4 c2 ys, Stp G H G4 H2 ∧ v2 = .ref c2 ∧ SeqAt' X.K (nB T a && nB T b) G4 H2 c2 ys ds2 dl ∧ ∀ b o, G3 b = some o → G4 b = some o := by
      cases k : kd T b with
      | S =>
        rw [k] at p2'
        have p3 : PK .S X.K G H G3 H2 v2 z2 := Rp.mono hg3 p2'
        exact seq_of (l := dl) e2 _ (fun _ => by exact fun q => nomatch q) t3 p3
      | B =>
        cases hnb : (nB T a && nB T b) with
        | true => exact absurd k (nb2 hnb)
        | false =>
          rw [k] at p2'
          rcases p2' with r | ⟨w, o, rfl, ho, hg, r⟩
          · have p3 : PK .S X.K G H G3 H2 v2 z2 := Rp.mono hg3 r
            exact seq_of (l := dl) e2 _ (fun _ => by exact fun q => nomatch q) t3 p3
          · cases hw : G3 w with
            | some u =>
              have hu := t3.s _ _ hw
              rw [ho] at hu
              cases hu
              have p3 : PK .S X.K G H G3 H2 (.ref w) z2 := (r.mono hg3).rp hw
              exact seq_of (l := dl) e2 _ (fun _ => by exact fun q => nomatch q) t3 p3
            | none =>
              have p3 : PK .B X.K G H G3 H2 (.ref w) z2 := .inr ⟨w, o, rfl, ho, hw, r.mono hg3⟩
              exact seq_of (l := dl) e2 _ (fun h => nomatch h) t3 p3
      | T =>
        rw [k] at p2'
        obtain ⟨w, o, rfl, hn, ho, hg, r⟩ := p2'
        have hn0 : H w = none := t1.h.free hn
        cases hw : G3 w with
        | some u =>
          have hu := t3.s _ _ hw
          rw [ho] at hu
          cases hu
          have p3 : PK .S X.K G H G3 H2 (.ref w) z2 := (r.mono hg3).rp hw
          exact seq_of (l := dl) e2 _ (fun _ => by exact fun q => nomatch q) t3 p3
        | none =>
          have p3 : PK .T X.K G H G3 H2 (.ref w) z2 := ⟨w, o, rfl, hn0, ho, hw, r.mono hg3⟩
          exact seq_of (l := dl) e2 _ (fun _ => by exact fun q => nomatch q) t3 p3
    subst e3 e4 ez
    have hx := s.at_ G4 H2 hg4 t4.s (.inr (Same.refl _))
    have hy := s2.at_ G4 H2 (Same.refl _) t4.s (.inr (Same.refl _))
    have h3 : WantI W cls X.K (nB T a && nB T b) (.ok (zipL ds ds2)) G H σ R := by
      have h0 : WantI W cls X.K (nBI T (.zip a b)) ((ev fn a ρ).bind fun x => (ev fn b ρ).bind fun y => zipD x y) G H σ R := h
      rw [ez1] at h0
      have h0 : WantI W cls X.K (nBI T (.zip a b)) ((ev fn b ρ).bind fun y => zipD z y) G H σ R := h0
      rw [ez2] at h0
      have h0 : WantI W cls X.K (nBI T (.zip a b)) (zipD z z2) G H σ R := h0
      rw [hz] at h0
      exact h0
    have hl1 := s.rp.len
    have hl2 := s2.rp.len
    have ylen : (zipL ds ds2).length = min ds.length ds2.length := zipL_len _ _
    cases dl with
    | true =>
      refine ⟨c, c2, xs, ys, rfl, .inl ⟨hx, hy, h3 _ _ _ t4 fun G5 H5 sg ok hk => ?_⟩⟩
      have kx := s.at_ G5 H5 (Same.trans hg4 sg) ok.s hk
      have ky := s2.at_ G5 H5 sg ok.s hk
      have kx : SqL X.K H5 c xs := kx
      have ky : SqL X.K H5 c2 ys := ky
      refine ⟨fun i z e => ?_, xs, ys, kx, ky, by rw [ylen]; omega⟩
      obtain ⟨x0, y0, f1, f2, rfl⟩ := zipL_get e
      obtain ⟨v', f3, r3⟩ := s.rp.get f1
      obtain ⟨w', f4, r4⟩ := s2.rp.get f2
      refine ⟨⟨xs, ys, v', w', kx, ky, f3, f4⟩, fun x H' y => ?_⟩
      obtain ⟨T', x', y', rfl, hn, rfl, y1, y2⟩ := y
      have q1 := y1 xs kx
      have q2 := y2 ys ky
      rw [f3] at q1
      rw [f4] at q2
      cases q1
      cases q2
      exact ⟨_, Stp.newS ok hn, .tup (SqT.of upd_same) (.cons ((r3.mono (Same.trans hg4 sg)).mono (same_upd (ok.s.free hn))) (.cons ((r4.mono sg).mono (same_upd (ok.s.free hn))) .nil))⟩
    | false =>
      refine ⟨c, c2, xs, ys, rfl, .inr ⟨hx, hy, h3 _ _ _ t4 fun G5 H5 sg ok hk => ?_⟩⟩
      have kx := s.at_ G5 H5 (Same.trans hg4 sg) ok.s hk
      have ky := s2.at_ G5 H5 sg ok.s hk
      have kx : SqT X.K H5 c xs := kx
      have ky : SqT X.K H5 c2 ys := ky
      refine ⟨fun i z e => ?_, xs, ys, kx, ky, by rw [ylen]; omega⟩
      obtain ⟨x0, y0, f1, f2, rfl⟩ := zipL_get e
      obtain ⟨v', f3, r3⟩ := s.rp.get f1
      obtain ⟨w', f4, r4⟩ := s2.rp.get f2
      refine ⟨⟨xs, ys, v', w', kx, ky, f3, f4⟩, fun x H' y => ?_⟩
      obtain ⟨T', x', y', rfl, hn, rfl, y1, y2⟩ := y
      have q1 := y1 xs kx
      have q2 := y2 ys ky
      rw [f3] at q1
      rw [f4] at q2
      cases q1
      cases q2
      exact ⟨_, Stp.newS ok hn, .tup (SqT.of upd_same) (.cons ((r3.mono (Same.trans hg4 sg)).mono (same_upd (ok.s.free hn))) (.cons ((r4.mono sg).mono (same_upd (ok.s.free hn))) .nil))⟩
  match z, z2, hz with
  | .lst ds, .lst ds2, hz => cases hz; exact both true ds ds2 rfl rfl rfl
  | .tup ds, .tup ds2, hz => cases hz; exact both false ds ds2 rfl rfl rfl
theorem pi_rv (C : Ctx T fn W cls d sc X) {a : Ex} {g l : Expr} {p p2 : Pos} (hb : blt T sc "reversed" = true) (ha : Snd T fn W cls X a l) (hl : plE l = true) : PI X g (.Call (.Name "reversed" p) [l] [] p2) (tIt T fn W cls X.K (.rev a)) := by
  obtain ⟨g1, g2, g3, g4⟩ := blt_ok C hb
  refine pi_imp (RT.pi_revA g1 g2 ha.pe (plE_star hl)) fun σ H R h => ?_
  obtain ⟨G, ρ, F, h⟩ := h
  refine wantI_seq F h fun z v H1 G1 ez t1 F1 p1 h1 => ?_
  have h0 : WantI W cls X.K (nB T a) ((ev fn a ρ).bind fun x => (items x).bind fun xs => .ok xs.reverse) G H σ R := h
  rw [ez] at h0
  obtain ⟨zs, hz, q⟩ := wantI_ok (ne_bind ne_ok fun x => ne_bind (items_ne x) fun _ => ne_ok) h0
  obtain ⟨ds, hd, hz⟩ := bind_okE (show ((items z).bind fun xs => Den.R.ok xs.reverse) = .ok zs from hz)
  cases hz
  obtain ⟨l, e1⟩ := items_cases hd
  obtain ⟨G3, c, xs, t3, e3, s, hg3⟩ := seq_of (l := l) e1 (nB T a) nB_imp t1 p1
  have hlen := s.rp.len
  refine ⟨c, xs, e3, ?_⟩
  have hx := s.at_ G3 H1 (Same.refl _) t3.s (.inr (Same.refl _))
  have gets : ∀ {i : Nat} {z : D}, ds.reverse[i]? = some z → i < xs.length ∧ ∃ v, xs[xs.length - 1 - i]? = some v ∧ Rp X.K G3 v z := fun {i z} e => by
    have hi : i < ds.length := by
      have := (List.getElem?_eq_some_iff.mp e).1
      rwa [List.length_reverse] at this
    rw [List.getElem?_reverse hi] at e
    rw [hlen]
    exact ⟨hi, s.rp.get e⟩
  cases l with
  | true =>
    refine .inl ⟨hx, q _ _ _ t3 fun G5 H5 sg ok hk => ?_⟩
    have kx := s.at_ G5 H5 sg ok.s hk
    have kx : SqL X.K H5 c xs := kx
    refine ⟨fun i z e => ?_, by show xs.length ≤ _; rw [List.length_reverse]; omega⟩
    obtain ⟨hi, v', f3, r3⟩ := gets e
    refine ⟨⟨hi, xs, v', kx, f3⟩, fun x H' y => ?_⟩
    obtain ⟨rfl, y⟩ := y
    have := y xs kx
    rw [f3] at this
    cases this
    exact ⟨G5, Stp.refl ok, r3.mono sg⟩
  | false =>
    refine .inr ⟨hx, q _ _ _ t3 fun G5 H5 sg ok hk => ?_⟩
    have kx := s.at_ G5 H5 sg ok.s hk
    have kx : SqT X.K H5 c xs := kx
    refine ⟨fun i z e => ?_, by show xs.length ≤ _; rw [List.length_reverse]; omega⟩
    obtain ⟨hi, v', f3, r3⟩ := gets e
    refine ⟨⟨hi, xs, v', kx, f3⟩, fun x H' y => ?_⟩
    obtain ⟨rfl, y⟩ := y
    have := y xs kx
    rw [f3] at this
    cases this
    exact ⟨G5, Stp.refl ok, r3.mono sg⟩
end
end Den
namespace Den
open PySem PySem.Spec PyProof.Rows L2
section
variable {T : Tbl} {fn : Nat → List D → R D} {W : WX} {cls : Nat → Value} {d : Bool} {sc : Scope} {X : Cx} {K : PySem.W.Frag} {own : Nat → Bool}

/-! ### storing -/
theorem set_get {α : Type} {l : List α} {i j : Nat} {a b : α} (h : (l.set i a)[j]? = some b) : (i = j ∧ a = b) ∨ (i ≠ j ∧ l[j]? = some b) := by
  by_cases e : i = j
  · subst e
    by_cases hi : i < l.length
    · rw [List.getElem?_set_self hi] at h
      exact .inl ⟨rfl, Option.some.inj h⟩
    · rw [List.getElem?_eq_none (by rw [List.length_set]; omega)] at h
      cases h
  · rw [List.getElem?_set_ne e] at h
    exact .inr ⟨e, h⟩
theorem set_at {α : Type} {l : List α} {i : Nat} {a b c : α} (h : (l.set i b)[i]? = some c) : (l.set i a)[i]? = some a := by
  have hi : i < l.length := by
    have := (List.getElem?_eq_some_iff.mp h).1
    rwa [List.length_set] at this
  exact List.getElem?_set_self hi
/-- a shared value into a slot that is not own -/
theorem FI.setS {G H : Hp} {ρ : Env} {σ : L2.St} {i : Nat} {v : V} {z : D} (F : FI K own G ρ σ H) (hi : own i = false) (r : Rp K G v z) : FI K own G (setV ρ i z) (σ.set i (some v)) H where
  ok := F.ok
  len := by unfold setV; rw [List.length_set, List.length_set]; exact F.len
  sh := fun j e hj h => by
    unfold setV at h
    rcases set_get h with ⟨rfl, h2⟩ | ⟨h1, h2⟩
    · cases h2
      refine ⟨v, ?_, r⟩
      have : i < ρ.length := by
        have := (List.getElem?_eq_some_iff.mp h).1
        rwa [List.length_set] at this
      rw [List.getElem?_set_self (by rw [← F.len]; exact this)]
    · rw [List.getElem?_set_ne h1]
      exact F.sh j e hj h2
  ow := fun j e hj h => by
    unfold setV at h
    rcases set_get h with ⟨rfl, h2⟩ | ⟨h1, h2⟩
    · rw [hi] at hj; cases hj
    · rw [List.getElem?_set_ne h1]
      exact F.ow j e hj h2
  ap := fun j k a x y hj hk h1 h2 h3 h4 => by
    unfold setV at h1 h2
    rcases set_get h1 with ⟨rfl, _⟩ | ⟨n1, h1⟩
    · rw [hi] at hj; cases hj
    · rcases set_get h2 with ⟨rfl, _⟩ | ⟨n2, h2⟩
      · rw [hi] at hk; cases hk
      · rw [List.getElem?_set_ne n1] at h3
        rw [List.getElem?_set_ne n2] at h4
        exact F.ap j k a x y hj hk h1 h2 h3 h4
/-- a slot forgotten -/
theorem FI.unset {G H : Hp} {ρ : Env} {σ : L2.St} {i : Nat} (F : FI K own G ρ σ H) (o : Option V) : FI K own G (ρ.set i none) (σ.set i o) H where
  ok := F.ok
  len := by rw [List.length_set, List.length_set]; exact F.len
  sh := fun j e hj h => by
    rcases set_get h with ⟨_, h2⟩ | ⟨h1, h2⟩
    · cases h2
    · rw [List.getElem?_set_ne h1]
      exact F.sh j e hj h2
  ow := fun j e hj h => by
    rcases set_get h with ⟨rfl, h2⟩ | ⟨h1, h2⟩
    · cases h2
    · rw [List.getElem?_set_ne h1]
      exact F.ow j e hj h2
  ap := fun j k a x y hj hk h1 h2 h3 h4 => by
    rcases set_get h1 with ⟨_, h1⟩ | ⟨n1, h1⟩
    · cases h1
    · rcases set_get h2 with ⟨_, h2⟩ | ⟨n2, h2⟩
      · cases h2
      · rw [List.getElem?_set_ne n1] at h3
        rw [List.getElem?_set_ne n2] at h4
        exact F.ap j k a x y hj hk h1 h2 h3 h4
theorem FI.wipe {G H : Hp} {ρ : Env} {σ : L2.St} (F : FI K own G ρ σ H) : ∀ vs : List Nat, FI K own G (wipeE ρ vs) (L2.wipe σ vs) H
  | [] => F
  | v :: vs => (FI.wipe F vs).unset none
theorem wipe_set {σ : L2.St} {i : Nat} {o : Option V} : ∀ {vs : List Nat}, i ∈ vs → L2.wipe (σ.set i o) vs = L2.wipe σ vs
  | v :: vs, h => by
    unfold L2.wipe
    by_cases hi : i ∈ vs
    · rw [wipe_set hi]
    · have hv : i = v := by
        rcases List.mem_cons.mp h with e | e
        · exact e
        · exact absurd e hi
      subst hv
      have aux : ∀ (us : List Nat), i ∉ us → L2.wipe (σ.set i o) us = (L2.wipe σ us).set i o := by
        intro us
        induction us with
        | nil => intro _; rfl
        | cons u us ih =>
          intro hu
          simp only [List.mem_cons, not_or] at hu
          unfold L2.wipe
          rw [ih hu.2, List.set_comm _ _ hu.1]
      rw [aux vs hi, List.set_set]
theorem wipe_idem {σ : L2.St} {vs : List Nat} : L2.wipe (L2.wipe σ vs) vs = L2.wipe σ vs := by
  have aux : ∀ us : List Nat, (∀ u ∈ us, u ∈ vs) → L2.wipe (L2.wipe σ us) vs = L2.wipe σ vs := by
    intro us
    induction us with
    | nil => intro _; rfl
    | cons u us ih =>
      intro hu
      show L2.wipe ((L2.wipe σ us).set u none) vs = _
      rw [wipe_set (hu u (by simp)), ih fun x hx => hu x (List.mem_cons_of_mem _ hx)]
  exact aux vs fun _ h => h
/-! ### targets -/
def gNs : List Nat → TGs
  | [] => gNil
  | i :: is => gCons (gName i) (gNs is)
def gT (K : PySem.W.Frag) : Tg → TG
  | .one i => gName i
  | .many is => fun v σ H Q => gTup K is.length (gNs is) v σ H Q ∨ gUnl K is.length (gNs is) v σ H Q
  | .nest is j => gTup K 2 (gCons (gTup K is.length (gNs is)) (gCons (gName j) gNil))
theorem pg_or {e : Expr} {t u : TG} (h1 : PG X e t) (h2 : PG X e u) : PG X e (fun v σ H Q => t v σ H Q ∨ u v σ H Q) :=
  ⟨fun pins s σ H v w Q I r h => h.elim (h1.run pins s σ H v w Q I r) (h2.run pins s σ H v w Q I r)⟩
theorem gNs_read : ∀ (is : List Nat) (G H : Hp) (ρ ρ' : Env) (σ : L2.St) (vs : List V) (zs : List D) (Q : L2.St → Hp → Prop), (∀ i ∈ is, own i = false) → FI K own G ρ σ H → RpL K G vs zs → setVs ρ is zs = .ok ρ' →
      (∀ σ', FI K own G ρ' σ' H → (∀ us : List Nat, (∀ i ∈ is, i ∈ us) → L2.wipe σ' us = L2.wipe σ us) → Q σ' H) → gNs is vs σ H Q
  | [], G, H, ρ, ρ', σ, vs, zs, Q, ho, F, r, e, q => by
    cases zs with
    | nil =>
      cases e
      cases r
      exact ⟨rfl, q σ F fun _ _ => rfl⟩
    | cons _ _ => cases e
  | i :: is, G, H, ρ, ρ', σ, vs, zs, Q, ho, F, r, e, q => by
    cases zs with
    | nil => cases e
    | cons z zs =>
      cases r with
      | cons r rr =>
        refine ⟨_, _, rfl, ?_⟩
        refine gNs_read is G H (setV ρ i z) ρ' _ _ zs Q (fun j hj => ho j (List.mem_cons_of_mem _ hj)) (F.setS (ho i (by simp)) r) rr e fun σ' F' hw => q σ' F' fun us hu => ?_
        rw [hw us fun j hj => hu j (List.mem_cons_of_mem _ hj), wipe_set (hu i (by simp))]
def tgS : Tg → List Nat
  | .one i => [i]
  | .many is => is
  | .nest is j => j :: is
/-- a nested target's data -/
theorem nest_inv {ρ ρ' : Env} {is : List Nat} {j : Nat} {z : D} (h : bindT ρ (.nest is j) z = .ok ρ') : ∃ ds w ρ1, z = .tup [.tup ds, w] ∧ ds.length = is.length ∧ setVs ρ is ds = .ok ρ1 ∧ ρ' = setV ρ1 j w := by
  unfold bindT at h
  split at h
  · cases ‹Tg.nest is j = Tg.one _›
  · cases ‹Tg.nest is j = Tg.many _›
  · cases ‹Tg.nest is j = Tg.many _›
  · cases ‹Tg.nest is j = Tg.many _›
  · rename_i is' j' ds w _
    cases ‹Tg.nest is j = Tg.nest is' j'›
    obtain ⟨g1, g2⟩ := guard_ok h
    obtain ⟨ρ1, h1, h2⟩ := bind_okE g2
    cases h2
    exact ⟨ds, w, ρ1, rfl, of_decide_eq_true g1, h1, rfl⟩
  · cases h
theorem gT_read {tg : Tg} {G H : Hp} {ρ ρ' : Env} {σ : L2.St} {v : V} {z : D} {Q : L2.St → Hp → Prop} (ho : ∀ i ∈ tgS tg, own i = false) (F : FI K own G ρ σ H) (r : Rp K G v z) (e : bindT ρ tg z = .ok ρ')
    (q : ∀ σ', FI K own G ρ' σ' H → (∀ us : List Nat, (∀ i ∈ tgS tg, i ∈ us) → L2.wipe σ' us = L2.wipe σ us) → Q σ' H) : gT K tg v σ H Q := by
  cases tg with
  | one i =>
    cases e
    exact q _ (F.setS (ho i (by simp [tgS])) r) fun us hu => wipe_set (hu i (by simp [tgS]))
  | many is =>
    cases z with
    | tup ds =>
      obtain ⟨g1, g2⟩ := guard_ok e
      obtain ⟨a, xs, rfl, h1, h2⟩ := tup_inv r
      exact .inl ⟨a, xs, rfl, seqT F.sub h1, by rw [h2.len]; exact of_decide_eq_true g1, gNs_read is G H ρ ρ' σ xs ds Q ho F h2 g2 q⟩
    | lst ds =>
      obtain ⟨g1, g2⟩ := guard_ok e
      obtain ⟨a, xs, rfl, h1, h2⟩ := lst_inv r
      exact .inr ⟨a, xs, rfl, F.sub.seq h1, by rw [h2.len]; exact of_decide_eq_true g1, gNs_read is G H ρ ρ' σ xs ds Q ho F h2 g2 q⟩
    | _ => cases e
  | nest is j =>
    obtain ⟨ds, w, ρ1, rfl, hl, e1, rfl⟩ := nest_inv e
    obtain ⟨a, xs, rfl, h1, h2⟩ := tup_inv r
    cases h2 with
    | cons r1 h2 =>
      cases h2 with
      | cons r2 h2 =>
        cases h2
        obtain ⟨b, ys, rfl, h3, h4⟩ := tup_inv r1
        refine ⟨a, _, rfl, seqT F.sub h1, rfl, _, _, rfl, ⟨b, ys, rfl, seqT F.sub h3, by rw [h4.len]; exact hl, ?_⟩⟩
        refine gNs_read is G H ρ ρ1 σ ys ds _ (fun i hi => ho i (List.mem_cons_of_mem _ hi)) F h4 e1 fun σ' F' hw => ?_
        refine ⟨_, _, rfl, rfl, q _ (F'.setS (ho j (by simp [tgS])) r2) fun us hu => ?_⟩
        rw [wipe_set (hu j (by simp [tgS])), hw us fun i hi => hu i (List.mem_cons_of_mem _ hi)]
/-- the names of a target, one after another -/
theorem names_ok (C : Ctx T fn W cls d sc X) : ∀ {is : List Nat} {es : List Expr}, mNames T d sc is es = true → PGs X es (gNs is) ∧ (assignEach es X.env).length = is.length ∧ (assignEach es X.env).findIdx? (·.1) = none ∧ ∀ i ∈ is, T.isOwn i = false
  | [], [], _ => ⟨pgs_nil, rfl, rfl, by simp⟩
  | i :: is, e :: es, h => by
    cases e with
    | Name x p =>
      unfold mNames at h
      rw [Bool.and_eq_true, Bool.and_eq_true, Bool.and_eq_true, decide_eq_true_eq] at h
      obtain ⟨ht, hl, hx, hq⟩ := names_ok C h.2
      obtain ⟨l1, l2⟩ := locB_ok h.1.1.2
      have ho : T.isOwn i = false := by have := h.1.2; cases q : T.isOwn i <;> simp_all
      have hg : PG X (.Name x p) (gName i) := pg_name (by rw [C.hN]; exact C.nd) (by rw [C.hN]; exact h.1.1.1) (by rw [C.hs]; exact l1) (by
        cases d with
        | true => exact .inl (C.fnc rfl x)
        | false => exact .inr (by rw [C.hs]; exact l2 rfl))
      have e1 : assignEach (.Name x p :: es) X.env = (false, assign (.Name x p) X.env) :: assignEach es X.env := rfl
      refine ⟨pgs_cons hg ht, by rw [e1, List.length_cons, List.length_cons, hl], ?_, fun j hj => ?_⟩
      · rw [e1, List.findIdx?_cons, hx]; rfl
      · rcases List.mem_cons.mp hj with q | q
        · rw [q]; exact ho
        · exact hq j q
    | _ => cases h
  | [], _ :: _, h => by cases h
  | _ :: _, [], h => by cases h
theorem tg_ok (C : Ctx T fn W cls d sc X) {tg : Tg} {g : Expr} (h : mTg T d sc tg g = true) : PG X g (gT X.K tg) ∧ ∀ i ∈ tgS tg, T.isOwn i = false := by
  cases tg with
  | one i =>
    cases g with
    | Name x p =>
      unfold mTg at h
      rw [Bool.and_eq_true, Bool.and_eq_true, decide_eq_true_eq] at h
      obtain ⟨l1, l2⟩ := locB_ok h.1.2
      have ho : T.isOwn i = false := by have := h.2; cases q : T.isOwn i <;> simp_all
      refine ⟨pg_name (by rw [C.hN]; exact C.nd) (by rw [C.hN]; exact h.1.1) (by rw [C.hs]; exact l1) (by
        cases d with
        | true => exact .inl (C.fnc rfl x)
        | false => exact .inr (by rw [C.hs]; exact l2 rfl)), fun j hj => ?_⟩
      have e : j = i := by simpa [tgS] using hj
      rw [e]
      exact ho
    | _ => cases h
  | many is =>
    cases g with
    | Tuple es k p =>
      obtain ⟨ht, hl, hx, hq⟩ := names_ok C (is := is) (es := es) h
      exact ⟨pg_or (pg_tup C.calm ht hl hx) (pg_unl C.calm ht hl hx), hq⟩
    | _ => cases h
  | nest is j =>
    unfold mTg at h
    split at h
    · cases ‹Tg.nest is j = Tg.one _›
    · cases ‹Tg.nest is j = Tg.many _›
    · rename_i is' j' es k p x p2 k2 p3 _
      cases ‹Tg.nest is j = Tg.nest is' j'›
      simp only [Bool.and_eq_true, decide_eq_true_eq] at h
      obtain ⟨⟨⟨h1, h2⟩, h3⟩, h4⟩ := h
      obtain ⟨ht, hl, hx, hq⟩ := names_ok C (is := is) (es := es) h1
      obtain ⟨l1, l2⟩ := locB_ok h3
      have ho : T.isOwn j = false := by cases q : T.isOwn j <;> simp_all
      have hg : PG X (.Name x p2) (gName j) := pg_name (by rw [C.hN]; exact C.nd) (by rw [C.hN]; exact h2) (by rw [C.hs]; exact l1) (by
        cases d with
        | true => exact .inl (C.fnc rfl x)
        | false => exact .inr (by rw [C.hs]; exact l2 rfl))
      refine ⟨pg_tup C.calm (pgs_cons (pg_tup C.calm ht hl hx) (pgs_cons hg pgs_nil)) rfl rfl, fun i hi => ?_⟩
      rcases List.mem_cons.mp hi with q | q
      · rw [q]; exact ho
      · exact hq i q
    · cases h

/-! ### comprehensions -/
theorem compL_cons {f : D → R (Option D)} {x : D} {r : List D} {ds : List D} (h : compL f (x :: r) = .ok ds) : ∃ o rs, f x = .ok o ∧ compL f r = .ok rs ∧ ds = (match o with | some d => d :: rs | none => rs) := by
  rw [compL] at h
  obtain ⟨o, e1, h⟩ := bind_okE h
  obtain ⟨rs, e2, h⟩ := bind_okE h
  cases h
  exact ⟨o, rs, e1, e2, rfl⟩
theorem nox_ok' {α : Type} {r : R α} {a : α} (h : r.nox = .ok a) : r = .ok a := by
  cases r with
  | ok b => exact h
  | exc c => cases h
  | bad => cases h
theorem nox_ne {α : Type} (r : R α) : ∀ c, r.nox ≠ .exc c := by
  cases r <;> exact fun _ q => nomatch q
theorem compL_len {f : D → R (Option D)} : ∀ {l : List D} {ds : List D}, compL f l = .ok ds → ds.length ≤ l.length
  | [], ds, h => by cases h; exact Nat.le_refl _
  | x :: r, ds, h => by
    obtain ⟨o, rs, _, e2, rfl⟩ := compL_cons h
    have := compL_len e2
    cases o <;> simp only [List.length_cons] <;> omega
def accP (D : Addr) (P : Hp → Prop) : Option V → Hp → Prop
  | some y, H4 => ∃ acc, H4 D = some (.lst acc) ∧ acc.length < sizeLine ∧ P (upd H4 D (.lst (acc ++ [y])))
  | none, H4 => P H4
/-- the turns of a comprehension; f: what a turn gives, by data -/
theorem lc_read {it : Itr} {own : List Nat} {g : TG} {tt : TT} {te : TE} {f : D → R (Option D)} {σ : L2.St} {H G : Hp} {ρ : Env} {Q : VK} (hown : ∀ i ∈ own, T.isOwn i = false) (F : FI X.K T.isOwn G ρ σ H)
    (h : Want W cls X.K .T ((evi fn it ρ).bind fun xs => .guard (decide (xs.length ≤ Line)) ((compL f xs).nox.bind fun ds => .ok (.lst ds))) G H σ Q)
    (turn : ∀ (G H : Hp) (x : V) (z : D) (o : Option D) (P : Option V → Hp → Prop), FI X.K T.isOwn G (wipeE ρ own) (L2.wipe σ own) H → Rp X.K G x z → f z = .ok o →
      (∀ ov H' G', Stp G H G' H' → (match o, ov with | some w, some v => Rp X.K G' v w | none, none => True | _, _ => False) → P ov H') →
      g x (L2.wipe σ own) H fun σ2 H2 => L2.wipe σ2 own = L2.wipe σ own ∧ tt σ2 H2 fun b H3 => if b = true then te σ2 H3 fun y H4 => P (some y) H4 else P none H3) :
    tLc (tIt T fn W cls X.K it) g tt te own σ H Q := by
  refine ⟨G, ρ, F, ?_⟩
  cases e : evi fn it ρ with
  | exc c => rw [e] at h; exact h
  | bad => rw [e] at h; exact h
  | ok xs =>
    rw [e] at h
    obtain ⟨z, hz, q⟩ := want_pure (ne_guard (ne_bind (nox_ne _) fun _ => ne_ok)) h
    obtain ⟨g1, g2⟩ := guard_ok hz
    obtain ⟨ds, hd, e3⟩ := bind_okE g2
    cases e3
    have hd := nox_ok' hd
    have hxs : xs.length ≤ Line := of_decide_eq_true g1
    intro J H1 G1 t1 yl D nD
    have F1 := F.step t1
    have gD : G1 D = none := t1.s.free nD
    refine ⟨fun i m Hc => m = xs.length - i ∧ i ≤ xs.length ∧ ∃ Gc acc done rest, Stp G1 H1 Gc Hc ∧ Hc D = some (.lst acc) ∧ Gc D = none ∧ RpL X.K Gc acc done ∧ compL f (xs.drop i) = .ok rest ∧ ds = done ++ rest ∧ done.length ≤ i,
      ⟨xs.length, by omega, Nat.zero_le _, G1, [], [], ds, Stp.newO F1.ok nD trivial, upd_same, gD, .nil, by rw [List.drop_zero]; exact hd, rfl, Nat.le_refl _⟩, ?_⟩
    rintro i m Hc ⟨rfl, hi, Gc, acc, done, rest, tc, hD, hgD, hr, hcl, hds, hdl⟩
    obtain ⟨y1, y2⟩ := yl Gc Hc tc.g tc.o (.inr tc.h)
    by_cases hlt : i < xs.length
    · have hx : xs[i]? = some xs[i] := List.getElem?_eq_getElem hlt
      obtain ⟨go, yy⟩ := y1 i _ hx
      have hdrop : xs.drop i = xs[i] :: xs.drop (i + 1) := List.drop_eq_getElem_cons hlt
      rw [hdrop] at hcl
      obtain ⟨o, rs, ho, hrs, hrest⟩ := compL_cons hcl
      refine .inr ⟨go, fun H' => ∃ G' acc' done', Stp G1 H1 G' H' ∧ H' D = some (.lst acc') ∧ G' D = none ∧ RpL X.K G' acc' done' ∧ ds = done' ++ rs ∧ done'.length ≤ i + 1, fun H' hN => ?_, fun x H' hy => ?_⟩
      · obtain ⟨G', acc', done', a1, a2, a3, a4, a5, a6⟩ := hN
        exact ⟨xs.length - (i + 1), by omega, rfl, hlt, G', acc', done', rs, a1, a2, a3, a4, hrs, a5, a6⟩
      · obtain ⟨G', t', rx⟩ := yy x H' hy
        have tt' := tc.trans t'
        have Fw := ((F1.step tt').wipe own)
        have hD' : H' D = some (.lst acc) := t'.h _ _ hD
        have hg' : G' D = none := t'.k _ _ hD hgD
        refine turn G' H' x xs[i] o (accP D fun H' => ∃ G' acc' done', Stp G1 H1 G' H' ∧ H' D = some (.lst acc') ∧ G' D = none ∧ RpL X.K G' acc' done' ∧ ds = done' ++ rs ∧ done'.length ≤ i + 1) Fw rx ho fun ov H4 G4 t4 hm => ?_
        have hD4 : H4 D = some (.lst acc) := t4.h _ _ hD'
        have hg4 : G4 D = none := t4.k _ _ hD' hg'
        have t5 := tt'.trans t4
        cases ov with
        | some y =>
          cases o with
          | none => exact hm.elim
          | some w =>
            have hl := hr.len
            refine ⟨acc, hD4, by rw [sizeLn]; omega, G4, acc ++ [y], done ++ [w], ⟨fun b u q => ?_, t5.g, ⟨fun b u q => ?_, fun b u q n => ?_⟩, t5.k⟩, upd_same, hg4, ((hr.mono t'.g).mono t4.g).append (.cons hm .nil), ?_, by rw [List.length_append]; exact Nat.succ_le_succ hdl⟩
            · rw [upd_ne (ne_of_none q nD)]; exact t5.h _ _ q
            · rw [upd_ne (ne_of_none q hg4)]; exact t5.s _ _ q
            · by_cases hb : b = D
              · subst hb; rw [upd_same] at q; cases q; exact trivial
              · rw [upd_ne hb] at q; exact t5.o.z _ _ q n
            · rw [hds, hrest, List.append_assoc]; rfl
        | none =>
          cases o with
          | some w => exact hm.elim
          | none => exact ⟨G4, acc, done, t5, hD4, hg4, (hr.mono t'.g).mono t4.g, by rw [hds, hrest], by omega⟩
    · have ei : i = xs.length := by omega
      subst ei
      refine .inl ⟨y2, ?_⟩
      rw [List.drop_length] at hcl
      cases hcl
      rw [List.append_nil] at hds
      subst hds
      exact q _ _ _ (t1.trans tc) ⟨D, .lst acc, rfl, t1.h.free nD, hD, hgD, .lst hr⟩
end
end Den
namespace Den
open PySem PySem.Spec PyProof.Rows L2

/-! ### zip of four lists, walked without a target -/
abbrev IsZ (h : Heap) (b : Addr) (f0 : Value) (f : Bool) : Prop :=
  h.get? (b + 6) = some { cls := .type "zip", dict := none, data := .fields #[f0, .bool f, .bool false, .ref (b + 4), .ref (b + 5)], slots := #[] }
abbrev Is4 (h : Heap) (T : Addr) (x y z w : Value) : Prop := h.get? T = some { cls := .type "tuple", data := .seq #[x, y, z, w] }
/-- the parts of the walk but the zip and its own tuple -/
structure C4 (b l1 l2 l3 l4 : Addr) (xs ys zs ws : Array Value) (n1 n2 n3 n4 : Nat) (h : Heap) : Prop where
  ti : Is4 h (b + 4) (.ref b) (.ref (b + 1)) (.ref (b + 2)) (.ref (b + 3))
  i1 : h.IsListIter b l1 n1
  i2 : h.IsListIter (b + 1) l2 n2
  i3 : h.IsListIter (b + 2) l3 n3
  i4 : h.IsListIter (b + 3) l4 n4
  L1 : h.IsList l1 xs
  L2 : h.IsList l2 ys
  L3 : h.IsList l3 zs
  L4 : h.IsList l4 ws
section
variable {b l1 l2 l3 l4 : Addr} {xs ys zs ws : Array Value} {n1 n2 n3 n4 : Nat} {h h' : Heap}
theorem C4.mv (C : C4 b l1 l2 l3 l4 xs ys zs ws n1 n2 n3 n4 h) (k : ∀ c o, c = b + 4 ∨ c = b ∨ c = b + 1 ∨ c = b + 2 ∨ c = b + 3 ∨ c = l1 ∨ c = l2 ∨ c = l3 ∨ c = l4 → h.get? c = some o → h'.get? c = some o) : C4 b l1 l2 l3 l4 xs ys zs ws n1 n2 n3 n4 h' :=
  ⟨k _ _ (by simp) C.ti, C.i1.at fun o e => k _ o (by simp) e, C.i2.at fun o e => k _ o (by simp) e, C.i3.at fun o e => k _ o (by simp) e, C.i4.at fun o e => k _ o (by simp) e,
    C.L1.at fun o e => k _ o (by simp) e, C.L2.at fun o e => k _ o (by simp) e, C.L3.at fun o e => k _ o (by simp) e, C.L4.at fun o e => k _ o (by simp) e⟩
variable (d1 : l1 < b) (d2 : l2 < b) (d3 : l3 < b) (d4 : l4 < b)
include d1 d2 d3 d4
theorem C4.off (C : C4 b l1 l2 l3 l4 xs ys zs ws n1 n2 n3 n4 h) {c : Addr} (hc : b + 5 ≤ c) (s : Heap.SameBut c h h') : C4 b l1 l2 l3 l4 xs ys zs ws n1 n2 n3 n4 h' :=
  C.mv fun d o e q => s.extBut _ _ (by (simp only [Addr] at *; omega)) q
theorem C4.s1 (C : C4 b l1 l2 l3 l4 xs ys zs ws n1 n2 n3 n4 h) (s : Heap.SameBut b h h') {m : Nat} (e : h'.IsListIter b l1 m) : C4 b l1 l2 l3 l4 xs ys zs ws m n2 n3 n4 h' :=
  ⟨s.extBut _ _ (by (simp only [Addr] at *; omega)) C.ti, e, C.i2.at fun o e => s.extBut _ _ (by (simp only [Addr] at *; omega)) e, C.i3.at fun o e => s.extBut _ _ (by (simp only [Addr] at *; omega)) e, C.i4.at fun o e => s.extBut _ _ (by (simp only [Addr] at *; omega)) e,
    C.L1.at fun o e => s.extBut _ _ (by (simp only [Addr] at *; omega)) e, C.L2.at fun o e => s.extBut _ _ (by (simp only [Addr] at *; omega)) e, C.L3.at fun o e => s.extBut _ _ (by (simp only [Addr] at *; omega)) e, C.L4.at fun o e => s.extBut _ _ (by (simp only [Addr] at *; omega)) e⟩
theorem C4.s2 (C : C4 b l1 l2 l3 l4 xs ys zs ws n1 n2 n3 n4 h) (s : Heap.SameBut (b + 1) h h') {m : Nat} (e : h'.IsListIter (b + 1) l2 m) : C4 b l1 l2 l3 l4 xs ys zs ws n1 m n3 n4 h' :=
  ⟨s.extBut _ _ (by (simp only [Addr] at *; omega)) C.ti, C.i1.at fun o e => s.extBut _ _ (by (simp only [Addr] at *; omega)) e, e, C.i3.at fun o e => s.extBut _ _ (by (simp only [Addr] at *; omega)) e, C.i4.at fun o e => s.extBut _ _ (by (simp only [Addr] at *; omega)) e,
    C.L1.at fun o e => s.extBut _ _ (by (simp only [Addr] at *; omega)) e, C.L2.at fun o e => s.extBut _ _ (by (simp only [Addr] at *; omega)) e, C.L3.at fun o e => s.extBut _ _ (by (simp only [Addr] at *; omega)) e, C.L4.at fun o e => s.extBut _ _ (by (simp only [Addr] at *; omega)) e⟩
theorem C4.s3 (C : C4 b l1 l2 l3 l4 xs ys zs ws n1 n2 n3 n4 h) (s : Heap.SameBut (b + 2) h h') {m : Nat} (e : h'.IsListIter (b + 2) l3 m) : C4 b l1 l2 l3 l4 xs ys zs ws n1 n2 m n4 h' :=
  ⟨s.extBut _ _ (by (simp only [Addr] at *; omega)) C.ti, C.i1.at fun o e => s.extBut _ _ (by (simp only [Addr] at *; omega)) e, C.i2.at fun o e => s.extBut _ _ (by (simp only [Addr] at *; omega)) e, e, C.i4.at fun o e => s.extBut _ _ (by (simp only [Addr] at *; omega)) e,
    C.L1.at fun o e => s.extBut _ _ (by (simp only [Addr] at *; omega)) e, C.L2.at fun o e => s.extBut _ _ (by (simp only [Addr] at *; omega)) e, C.L3.at fun o e => s.extBut _ _ (by (simp only [Addr] at *; omega)) e, C.L4.at fun o e => s.extBut _ _ (by (simp only [Addr] at *; omega)) e⟩
theorem C4.s4 (C : C4 b l1 l2 l3 l4 xs ys zs ws n1 n2 n3 n4 h) (s : Heap.SameBut (b + 3) h h') {m : Nat} (e : h'.IsListIter (b + 3) l4 m) : C4 b l1 l2 l3 l4 xs ys zs ws n1 n2 n3 m h' :=
  ⟨s.extBut _ _ (by (simp only [Addr] at *; omega)) C.ti, C.i1.at fun o e => s.extBut _ _ (by (simp only [Addr] at *; omega)) e, C.i2.at fun o e => s.extBut _ _ (by (simp only [Addr] at *; omega)) e, C.i3.at fun o e => s.extBut _ _ (by (simp only [Addr] at *; omega)) e, e,
    C.L1.at fun o e => s.extBut _ _ (by (simp only [Addr] at *; omega)) e, C.L2.at fun o e => s.extBut _ _ (by (simp only [Addr] at *; omega)) e, C.L3.at fun o e => s.extBut _ _ (by (simp only [Addr] at *; omega)) e, C.L4.at fun o e => s.extBut _ _ (by (simp only [Addr] at *; omega)) e⟩
end
/-- the zip itself: before its first tuple; or with a tuple of its out -/
def Z4 (b l1 l2 l3 l4 : Addr) (xs ys zs ws : Array Value) (i : Nat) (h : Heap) : Prop :=
  C4 b l1 l2 l3 l4 xs ys zs ws i i i i h ∧ ((IsZ h b .none false ∧ Is4 h (b + 5) .none .none .none .none) ∨ (∃ (T : Addr) (f : Bool) (o : Obj), IsZ h b (rawInt T) f ∧ h.get? T = some o ∧ b + 7 < T))
section
variable {prog : Program} {w : World} {A : Around} {E : Value → Shared → Prop} {s : Shared}
variable {b l1 l2 l3 l4 : Addr} {xs ys zs ws : Array Value} {i : Nat} {x1 x2 x3 x4 : Value}
theorem up4 {T : Addr} {p q r t x : Value} {k : Nat} {Q : Unit → Shared → Prop} (hT : Is4 s.heap T p q r t)
    (h : ∀ h', h'.get? T = some { cls := .type "tuple", data := .seq ((#[p, q, r, t] : Array Value).setIfInBounds k x) } → Heap.SameBut T s.heap h' → Q () { s with heap := h' }) :
    wpAny (model prog w) A (updateSeq T (·.setIfInBounds k x)) Q E s := by
  refine wpAny_updateSeq hT rfl (h _ ?_ (Heap.SameBut.update ..))
  rw [Heap.get?_update_self _ hT rfl]
  simp [Obj.mapSeq]
theorem z4_item {Q : Value → Shared → Prop} (hbs : b + 7 < s.heap.objs.size) (d1 : l1 < b) (d2 : l2 < b) (d3 : l3 < b) (d4 : l4 < b) (hz : Z4 b l1 l2 l3 l4 xs ys zs ws i s.heap)
    (h1 : xs[i]? = some x1) (h2 : ys[i]? = some x2) (h3 : zs[i]? = some x3) (h4 : ws[i]? = some x4)
    (hQ : ∀ h', Z4 b l1 l2 l3 l4 xs ys zs ws (i + 1) h' → Is4 h' s.heap.objs.size x1 x2 x3 x4 → h'.objs.size = s.heap.objs.size + 1 →
      (∀ c o, c ∉ [b, b + 1, b + 2, b + 3, b + 4, b + 5, b + 6] → s.heap.get? c = some o → h'.get? c = some o) → Q (.ref s.heap.objs.size) { s with heap := h' }) :
    wpAny (model prog w) A (Builtin.«zip.__next__» ⟨[.ref (b + 6)], []⟩) (fun fin s' => ∃ v, fin = .done (.ret v) ∧ Q v s') E s := by
  obtain ⟨C, hz⟩ := hz
  rcases hz with ⟨hz, hTO⟩ | ⟨T, f, o, hz, hT, hTb⟩
  · show wpAny _ _ (field (.ref (b + 6)) 2 >>= _) _ _ _
    refine wpAny_bind (wpAny_field hz rfl (x := .bool false) rfl ?_)
    show wpAny _ _ (field (.ref (b + 6)) 3 >>= _) _ _ _
    refine wpAny_bind (wpAny_field hz rfl (x := .ref (b + 4)) rfl ?_)
    refine wpAny_bind (wpAny_seqItems C.ti rfl ?_)
    show wpAny _ _ (Builtin.SmallTypes.ownedTupleIsFree (.ref (b + 6)) >>= _) _ _ _
    refine wpAny_bind ?_
    unfold Builtin.SmallTypes.ownedTupleIsFree
    refine wpAny_bind (wpAny_field hz rfl (x := .none) rfl (wpAny_pure ?_))
    simp only [if_true]
    refine wpAny_bind (wpAny_rule ?_)
    refine wpAny_bind (wpAny_field hz rfl (x := .ref (b + 5)) rfl ?_)
    refine wpAny_bind (wpAny_setField_rec hz (by simp) fun g1 z1 s1 => ?_)
    replace z1 : IsZ g1 b .ellipsis false := z1
    have C := C.off d1 d2 d3 d4 (by (simp only [Addr] at *; omega)) s1
    have hTO := s1.extBut _ _ (by (simp only [Addr] at *; omega)) hTO
    refine wpAny_bind ?_
    simp only [List.zipIdx_cons, List.zipIdx_nil, List.forIn_cons, List.forIn_nil]
    refine wpAny_bind (wpAny_bind (wpAny_onRaise ?_))
    show wpAny _ _ (Builtin.SmallTypes.nextOf (.ref b) >>= _) _ _ _
    refine wpAny_bind (wpAny_nextOf_list_item (s := { s with heap := g1 }) C.i1 C.L1 h1 fun g2 e2 s2 => wpAny_pure ?_)
    have C := C.s1 d1 d2 d3 d4 s2 e2
    have hTO := s2.extBut _ _ (by (simp only [Addr] at *; omega)) hTO
    refine wpAny_bind (wpAny_seqItems hTO rfl ?_)
    refine wpAny_bind (up4 (s := { s with heap := g2 }) hTO fun g3 hTO s3 => ?_)
    replace hTO : Is4 g3 (b + 5) x1 .none .none .none := hTO
    have C := C.off d1 d2 d3 d4 (by (simp only [Addr] at *; omega)) s3
    refine wpAny_bind (wpAny_letGo (wpAny_pure ?_))
    refine wpAny_bind (wpAny_bind (wpAny_onRaise ?_))
    show wpAny _ _ (Builtin.SmallTypes.nextOf (.ref (b + 1)) >>= _) _ _ _
    refine wpAny_bind (wpAny_nextOf_list_item (s := { s with heap := g3 }) C.i2 C.L2 h2 fun g4 e4 s4 => wpAny_pure ?_)
    have C := C.s2 d1 d2 d3 d4 s4 e4
    have hTO := s4.extBut _ _ (by (simp only [Addr] at *; omega)) hTO
    refine wpAny_bind (wpAny_seqItems hTO rfl ?_)
    refine wpAny_bind (up4 (s := { s with heap := g4 }) hTO fun g5 hTO s5 => ?_)
    replace hTO : Is4 g5 (b + 5) x1 x2 .none .none := hTO
    have C := C.off d1 d2 d3 d4 (by (simp only [Addr] at *; omega)) s5
    refine wpAny_bind (wpAny_letGo (wpAny_pure ?_))
    refine wpAny_bind (wpAny_bind (wpAny_onRaise ?_))
    show wpAny _ _ (Builtin.SmallTypes.nextOf (.ref (b + 2)) >>= _) _ _ _
    refine wpAny_bind (wpAny_nextOf_list_item (s := { s with heap := g5 }) C.i3 C.L3 h3 fun g6 e6 s6 => wpAny_pure ?_)
    have C := C.s3 d1 d2 d3 d4 s6 e6
    have hTO := s6.extBut _ _ (by (simp only [Addr] at *; omega)) hTO
    refine wpAny_bind (wpAny_seqItems hTO rfl ?_)
    refine wpAny_bind (up4 (s := { s with heap := g6 }) hTO fun g7 hTO s7 => ?_)
    replace hTO : Is4 g7 (b + 5) x1 x2 x3 .none := hTO
    have C := C.off d1 d2 d3 d4 (by (simp only [Addr] at *; omega)) s7
    refine wpAny_bind (wpAny_letGo (wpAny_pure ?_))
    refine wpAny_bind (wpAny_bind (wpAny_onRaise ?_))
    show wpAny _ _ (Builtin.SmallTypes.nextOf (.ref (b + 3)) >>= _) _ _ _
    refine wpAny_bind (wpAny_nextOf_list_item (s := { s with heap := g7 }) C.i4 C.L4 h4 fun g8 e8 s8 => wpAny_pure ?_)
    have C := C.s4 d1 d2 d3 d4 s8 e8
    have hTO := s8.extBut _ _ (by (simp only [Addr] at *; omega)) hTO
    refine wpAny_bind (wpAny_seqItems hTO rfl ?_)
    refine wpAny_bind (up4 (s := { s with heap := g8 }) hTO fun g9 hTO s9 => ?_)
    replace hTO : Is4 g9 (b + 5) x1 x2 x3 x4 := hTO
    have C := C.off d1 d2 d3 d4 (by (simp only [Addr] at *; omega)) s9
    refine wpAny_bind (wpAny_letGo (wpAny_pure (wpAny_pure ?_)))
    refine wpAny_bind (wpAny_seqItems hTO rfl ?_)
    refine wpAny_bind (wpAny_newTuple ?_)
    have hsz : g9.objs.size = s.heap.objs.size := by rw [s9.1, s8.1, s7.1, s6.1, s5.1, s4.1, s3.1, s2.1, s1.1]
    have hk : ∀ c o, c ≠ b → c ≠ b + 1 → c ≠ b + 2 → c ≠ b + 3 → c ≠ b + 5 → c ≠ b + 6 → s.heap.get? c = some o → g9.get? c = some o := fun c o c1 c2 c3 c4 c5 c6 e =>
      s9.extBut _ _ c5 (s8.extBut _ _ c4 (s7.extBut _ _ c5 (s6.extBut _ _ c3 (s5.extBut _ _ c5 (s4.extBut _ _ c2 (s3.extBut _ _ c5 (s2.extBut _ _ c1 (s1.extBut _ _ c6 e))))))))
    have hz9 : IsZ g9 b .ellipsis false := s9.extBut _ _ (by (simp only [Addr] at *; omega)) (s8.extBut _ _ (by (simp only [Addr] at *; omega)) (s7.extBut _ _ (by (simp only [Addr] at *; omega)) (s6.extBut _ _ (by (simp only [Addr] at *; omega)) (s5.extBut _ _ (by (simp only [Addr] at *; omega)) (s4.extBut _ _ (by (simp only [Addr] at *; omega)) (s3.extBut _ _ (by (simp only [Addr] at *; omega)) (s2.extBut _ _ (by (simp only [Addr] at *; omega)) z1)))))))
    show wpAny _ _ (Builtin.SmallTypes.ownedTupleHandOut (.ref (b + 6)) (.ref g9.objs.size) >>= _) _ _ _
    refine wpAny_bind ?_
    unfold Builtin.SmallTypes.ownedTupleHandOut
    have hz10 : IsZ (g9.push { cls := .type "tuple", data := .seq #[x1, x2, x3, x4] }) b .ellipsis false := Heap.get?_push_of_some _ hz9
    refine wpAny_bind (wpAny_setField_rec hz10 (by simp) fun g11 z11 s11 => ?_)
    replace z11 : IsZ g11 b (rawInt g9.objs.size) false := z11
    refine wpAny_setField_rec z11 (by simp) fun g12 z12 s12 => ?_
    replace z12 : IsZ g12 b (rawInt g9.objs.size) false := z12
    have up : ∀ c o, c ≠ b + 6 → g9.get? c = some o → g12.get? c = some o := fun c o c1 e => s12.extBut _ _ c1 (s11.extBut _ _ c1 (Heap.get?_push_of_some _ e))
    have hne : g9.objs.size ≠ b + 6 := by rw [hsz]; (simp only [Addr] at *; omega)
    have hT : Is4 g12 g9.objs.size x1 x2 x3 x4 := s12.extBut _ _ hne (s11.extBut _ _ hne (Heap.get?_push_size _ rfl))
    have h12 : g12.objs.size = g9.objs.size + 1 := by rw [s12.1, s11.1, Heap.size_push]
    rw [hsz] at z12 hT h12
    refine wpAny_pure ⟨_, rfl, ?_⟩
    show Q (.ref g9.objs.size) _
    rw [hsz]
    refine hQ g12 ⟨C.mv fun c o hc e => up c o (by (simp only [Addr] at *; omega)) e, .inr ⟨_, _, _, z12, hT, hbs⟩⟩ hT h12 fun c o hc e => ?_
    simp only [List.mem_cons, List.not_mem_nil, or_false, not_or] at hc
    exact up c o (by (simp only [Addr] at *; omega)) (hk c o (by (simp only [Addr] at *; omega)) (by (simp only [Addr] at *; omega)) (by (simp only [Addr] at *; omega)) (by (simp only [Addr] at *; omega)) (by (simp only [Addr] at *; omega)) (by (simp only [Addr] at *; omega)) e)
  · have hTs : T < s.heap.objs.size := Heap.lt_size hT
    show wpAny _ _ (field (.ref (b + 6)) 2 >>= _) _ _ _
    refine wpAny_bind (wpAny_field hz rfl (x := .bool false) rfl ?_)
    show wpAny _ _ (field (.ref (b + 6)) 3 >>= _) _ _ _
    refine wpAny_bind (wpAny_field hz rfl (x := .ref (b + 4)) rfl ?_)
    refine wpAny_bind (wpAny_seqItems C.ti rfl ?_)
    show wpAny _ _ (Builtin.SmallTypes.ownedTupleIsFree (.ref (b + 6)) >>= _) _ _ _
    refine wpAny_bind (wpAny_tupleHeld_zip hz hT fun g1 z1 s1 => ?_)
    replace z1 : IsZ g1 b (rawInt T) true := z1
    simp only [Bool.false_eq_true, if_false]
    have C := C.off d1 d2 d3 d4 (by (simp only [Addr] at *; omega)) s1
    refine wpAny_bind ?_
    rw [← Array.forIn_toList]
    simp only [List.forIn_cons, List.forIn_nil]
    refine wpAny_bind (wpAny_bind (wpAny_holding ?_))
    show wpAny _ _ (Builtin.SmallTypes.nextOf (.ref b) >>= _) _ _ _
    refine wpAny_bind (wpAny_nextOf_list_item (s := { s with heap := g1 }) C.i1 C.L1 h1 fun g2 e2 s2 => wpAny_pure ?_)
    have C := C.s1 d1 d2 d3 d4 s2 e2
    refine wpAny_pure ?_
    refine wpAny_bind (wpAny_bind (wpAny_holding ?_))
    show wpAny _ _ (Builtin.SmallTypes.nextOf (.ref (b + 1)) >>= _) _ _ _
    refine wpAny_bind (wpAny_nextOf_list_item (s := { s with heap := g2 }) C.i2 C.L2 h2 fun g3 e3 s3 => wpAny_pure ?_)
    have C := C.s2 d1 d2 d3 d4 s3 e3
    refine wpAny_pure ?_
    refine wpAny_bind (wpAny_bind (wpAny_holding ?_))
    show wpAny _ _ (Builtin.SmallTypes.nextOf (.ref (b + 2)) >>= _) _ _ _
    refine wpAny_bind (wpAny_nextOf_list_item (s := { s with heap := g3 }) C.i3 C.L3 h3 fun g4 e4 s4 => wpAny_pure ?_)
    have C := C.s3 d1 d2 d3 d4 s4 e4
    refine wpAny_pure ?_
    refine wpAny_bind (wpAny_bind (wpAny_holding ?_))
    show wpAny _ _ (Builtin.SmallTypes.nextOf (.ref (b + 3)) >>= _) _ _ _
    refine wpAny_bind (wpAny_nextOf_list_item (s := { s with heap := g4 }) C.i4 C.L4 h4 fun g5 e5 s5 => wpAny_pure ?_)
    have C := C.s4 d1 d2 d3 d4 s5 e5
    refine wpAny_pure (wpAny_pure ?_)
    show wpAny _ _ (newTuple [x1, x2, x3, x4] >>= _) _ _ _
    refine wpAny_bind (wpAny_newTuple ?_)
    have hsz : g5.objs.size = s.heap.objs.size := by rw [s5.1, s4.1, s3.1, s2.1, s1.1]
    have hk : ∀ c o, c ≠ b → c ≠ b + 1 → c ≠ b + 2 → c ≠ b + 3 → c ≠ b + 6 → s.heap.get? c = some o → g5.get? c = some o := fun c o c1 c2 c3 c4 c6 e =>
      s5.extBut _ _ c4 (s4.extBut _ _ c3 (s3.extBut _ _ c2 (s2.extBut _ _ c1 (s1.extBut _ _ c6 e))))
    have hz5 : IsZ g5 b (rawInt T) true := s5.extBut _ _ (by (simp only [Addr] at *; omega)) (s4.extBut _ _ (by (simp only [Addr] at *; omega)) (s3.extBut _ _ (by (simp only [Addr] at *; omega)) (s2.extBut _ _ (by (simp only [Addr] at *; omega)) z1)))
    refine wpAny_pure ⟨_, rfl, ?_⟩
    show Q (.ref g5.objs.size) _
    have hp : Is4 (g5.push { cls := .type "tuple", data := .seq #[x1, x2, x3, x4] }) g5.objs.size x1 x2 x3 x4 := Heap.get?_push_size _ rfl
    have hz6 : (g5.push { cls := .type "tuple", data := .seq #[x1, x2, x3, x4] }).objs.size = g5.objs.size + 1 := Heap.size_push ..
    rw [hsz] at hp hz6 ⊢
    refine hQ _ ⟨C.mv fun c o hc e => Heap.get?_push_of_some _ e, .inr ⟨T, true, o, Heap.get?_push_of_some _ hz5, Heap.get?_push_of_some _ (hk T o (by (simp only [Addr] at *; omega)) (by (simp only [Addr] at *; omega)) (by (simp only [Addr] at *; omega)) (by (simp only [Addr] at *; omega)) (by (simp only [Addr] at *; omega)) hT), hTb⟩⟩ hp hz6 fun c o hc e => ?_
    simp only [List.mem_cons, List.not_mem_nil, or_false, not_or] at hc
    exact Heap.get?_push_of_some _ (hk c o (by (simp only [Addr] at *; omega)) (by (simp only [Addr] at *; omega)) (by (simp only [Addr] at *; omega)) (by (simp only [Addr] at *; omega)) (by (simp only [Addr] at *; omega)) e)
theorem z4_end {Q : Fin → Shared → Prop} (hh : A.handled = none) (d1 : l1 < b) (d2 : l2 < b) (d3 : l3 < b) (d4 : l4 < b) (hz : Z4 b l1 l2 l3 l4 xs ys zs ws i s.heap) (h1 : xs[i]? = none)
    (hE : ∀ h' e, (∀ c o, c ∉ [b, b + 1, b + 2, b + 3, b + 4, b + 5, b + 6] → s.heap.get? c = some o → h'.get? c = some o) → (∃ o, h'.get? e = some o ∧ o.cls = .type "StopIteration") → E (.ref e) { s with heap := h' }) :
    wpAny (model prog w) A (Builtin.«zip.__next__» ⟨[.ref (b + 6)], []⟩) Q E s := by
  obtain ⟨C, hz⟩ := hz
  rcases hz with ⟨hz, hTO⟩ | ⟨T, f, o, hz, hT, hTb⟩
  · show wpAny _ _ (field (.ref (b + 6)) 2 >>= _) _ _ _
    refine wpAny_bind (wpAny_field hz rfl (x := .bool false) rfl ?_)
    show wpAny _ _ (field (.ref (b + 6)) 3 >>= _) _ _ _
    refine wpAny_bind (wpAny_field hz rfl (x := .ref (b + 4)) rfl ?_)
    refine wpAny_bind (wpAny_seqItems C.ti rfl ?_)
    show wpAny _ _ (Builtin.SmallTypes.ownedTupleIsFree (.ref (b + 6)) >>= _) _ _ _
    refine wpAny_bind ?_
    unfold Builtin.SmallTypes.ownedTupleIsFree
    refine wpAny_bind (wpAny_field hz rfl (x := .none) rfl (wpAny_pure ?_))
    simp only [if_true]
    refine wpAny_bind (wpAny_rule ?_)
    refine wpAny_bind (wpAny_field hz rfl (x := .ref (b + 5)) rfl ?_)
    refine wpAny_bind (wpAny_setField_rec hz (by simp) fun g1 z1 s1 => ?_)
    replace z1 : IsZ g1 b .ellipsis false := z1
    have C := C.off d1 d2 d3 d4 (by (simp only [Addr] at *; omega)) s1
    refine wpAny_bind ?_
    simp only [List.zipIdx_cons, List.zipIdx_nil, List.forIn_cons, List.forIn_nil]
    refine wpAny_bind (wpAny_bind (wpAny_onRaise ?_))
    show wpAny _ _ (Builtin.SmallTypes.nextOf (.ref b) >>= _) _ _ _
    refine wpAny_bind (wpAny_nextOf_list_end (s := { s with heap := g1 }) hh C.i1 C.L1 h1 fun g2 e s2 he => ?_)
    obtain ⟨oe, hoe, hce⟩ := he
    have z2 : IsZ g2 b .ellipsis false := s2 _ _ (by (simp only [Addr] at *; omega)) z1
    have hez : e ≠ b + 6 := fun x => by subst x; rw [z2] at hoe; cases hoe; simp at hce
    refine wpAny_setField_rec z2 (by simp) fun g3 _ s3 => hE g3 e (fun c o hc x => ?_) ⟨oe, s3.extBut _ _ hez hoe, hce⟩
    simp only [List.mem_cons, List.not_mem_nil, or_false, not_or] at hc
    exact s3.extBut _ _ (by (simp only [Addr] at *; omega)) (s2 _ _ (by (simp only [Addr] at *; omega)) (s1.extBut _ _ (by (simp only [Addr] at *; omega)) x))
  · show wpAny _ _ (field (.ref (b + 6)) 2 >>= _) _ _ _
    refine wpAny_bind (wpAny_field hz rfl (x := .bool false) rfl ?_)
    show wpAny _ _ (field (.ref (b + 6)) 3 >>= _) _ _ _
    refine wpAny_bind (wpAny_field hz rfl (x := .ref (b + 4)) rfl ?_)
    refine wpAny_bind (wpAny_seqItems C.ti rfl ?_)
    show wpAny _ _ (Builtin.SmallTypes.ownedTupleIsFree (.ref (b + 6)) >>= _) _ _ _
    refine wpAny_bind (wpAny_tupleHeld_zip hz hT fun g1 z1 s1 => ?_)
    replace z1 : IsZ g1 b (rawInt T) true := z1
    simp only [Bool.false_eq_true, if_false]
    have C := C.off d1 d2 d3 d4 (by (simp only [Addr] at *; omega)) s1
    refine wpAny_bind ?_
    rw [← Array.forIn_toList]
    simp only [List.forIn_cons, List.forIn_nil]
    refine wpAny_bind (wpAny_bind (wpAny_holding ?_))
    show wpAny _ _ (Builtin.SmallTypes.nextOf (.ref b) >>= _) _ _ _
    refine wpAny_bind (wpAny_nextOf_list_end (s := { s with heap := g1 }) hh C.i1 C.L1 h1 fun g2 e s2 he => hE g2 e (fun c o hc x => ?_) he)
    simp only [List.mem_cons, List.not_mem_nil, or_false, not_or] at hc
    exact s2 _ _ (by (simp only [Addr] at *; omega)) (s1.extBut _ _ (by (simp only [Addr] at *; omega)) x)
theorem next4_item {Q : Option Value → Shared → Prop} (hbs : b + 7 < s.heap.objs.size) (d1 : l1 < b) (d2 : l2 < b) (d3 : l3 < b) (d4 : l4 < b) (hz : Z4 b l1 l2 l3 l4 xs ys zs ws i s.heap)
    (h1 : xs[i]? = some x1) (h2 : ys[i]? = some x2) (h3 : zs[i]? = some x3) (h4 : ws[i]? = some x4)
    (hQ : ∀ h', Z4 b l1 l2 l3 l4 xs ys zs ws (i + 1) h' → Is4 h' s.heap.objs.size x1 x2 x3 x4 → h'.objs.size = s.heap.objs.size + 1 →
      (∀ c o, c ∉ [b, b + 1, b + 2, b + 3, b + 4, b + 5, b + 6] → s.heap.get? c = some o → h'.get? c = some o) → Q (some (.ref s.heap.objs.size)) { s with heap := h' }) :
    wpAny (model prog w) A (pyNext (.ref (b + 6))) Q E s := by
  have hT : s.TypeIs (.ref (b + 6)) "zip" := by
    rcases hz.2 with ⟨q, _⟩ | ⟨_, _, _, q, _⟩ <;> exact ⟨_, q, rfl⟩
  unfold pyNext
  exact wpAny_bind (wpAny_attempt (wpAny_callSpecial?_slot (name := Str.ofString "__next__") hT F.slot_zip_next
    (wpAny_call_entry F.slot_zip_next hT F.entry_zip_next
      (z4_item hbs d1 d2 d3 d4 hz h1 h2 h3 h4 fun h' a1 a2 a3 a4 => wpAny_pure (hQ h' a1 a2 a3 a4)) (F.args_zip_next_1 _))))
theorem next4_end {Q : Option Value → Shared → Prop} (hh : A.handled = none) (d1 : l1 < b) (d2 : l2 < b) (d3 : l3 < b) (d4 : l4 < b) (hz : Z4 b l1 l2 l3 l4 xs ys zs ws i s.heap) (h1 : xs[i]? = none)
    (hQ : ∀ h', (∀ c o, c ∉ [b, b + 1, b + 2, b + 3, b + 4, b + 5, b + 6] → s.heap.get? c = some o → h'.get? c = some o) → Q none { s with heap := h' }) : wpAny (model prog w) A (pyNext (.ref (b + 6))) Q E s := by
  have hT : s.TypeIs (.ref (b + 6)) "zip" := by
    rcases hz.2 with ⟨q, _⟩ | ⟨_, _, _, q, _⟩ <;> exact ⟨_, q, rfl⟩
  unfold pyNext
  refine wpAny_bind (wpAny_attempt (wpAny_callSpecial?_slot (name := Str.ofString "__next__") hT F.slot_zip_next
    (wpAny_call_entry F.slot_zip_next hT F.entry_zip_next (z4_end hh d1 d2 d3 d4 hz h1 fun h' e hk he => ?_) (F.args_zip_next_1 _))))
  obtain ⟨o, ho, hc⟩ := he
  refine wpAny_bind (wpAny_isInstance (T := "StopIteration") (b := true) ⟨o, ho, hc⟩ isSubtype_stop ?_)
  exact wpAny_pure (hQ _ hk)
end
end Den
namespace Den
open PySem PySem.Spec PyProof.Rows L2

/-! ### zip(a, b, c, d), its object -/
theorem typeCall_zip_4 (a b c d : Value) : checkTypeCall "zip" ⟨[a, b, c, d], []⟩ = pure () := by kernel_rfl
theorem newCall_zip_4 (a b c d : Value) : checkBuiltinCall "zip.__new__" ⟨[.type "zip", a, b, c, d], []⟩ = pure () := by kernel_rfl
theorem args_init_5 (a b c d e : Value) : argsOk "object.__init__" ⟨[a, b, c, d, e], []⟩ := by
  unfold argsOk; rw [signature?_of (id := "object.__init__") (n := ['_', '_', 't', 'i', 'n', 'i', '_', '_']) (o := ['t', 'c', 'e', 'j', 'b', 'o']) (by kernel_rfl) PySem.F.owner_object]; kernel_rfl
abbrev qIt (h : Heap) (l : Addr) : Heap := h.push { cls := .type "list_iterator", data := .fields #[.ref l, .int 0 0] }
abbrev qH4 (h : Heap) (l1 l2 l3 l4 : Addr) : Heap := qIt (qIt (qIt (qIt h l1) l2) l3) l4
abbrev qH5 (h : Heap) (l1 l2 l3 l4 : Addr) : Heap := (qH4 h l1 l2 l3 l4).push { cls := .type "tuple", data := .seq #[.ref h.objs.size, .ref (qIt h l1).objs.size, .ref (qIt (qIt h l1) l2).objs.size, .ref (qIt (qIt (qIt h l1) l2) l3).objs.size] }
abbrev qH6 (h : Heap) (l1 l2 l3 l4 : Addr) : Heap := (qH5 h l1 l2 l3 l4).push { cls := .type "tuple", data := .seq #[.none, .none, .none, .none] }
abbrev qH7 (h : Heap) (l1 l2 l3 l4 : Addr) : Heap := (qH6 h l1 l2 l3 l4).push { cls := .type "zip", data := .fields #[.none, .bool false, .bool false, .ref (qH4 h l1 l2 l3 l4).objs.size, .ref (qH5 h l1 l2 l3 l4).objs.size] }
set_option maxHeartbeats 4000000 in
theorem meets_zip_4 (l1 l2 l3 l4 : Addr) (xs ys zs ws : Array Value) :
    Meets (Builtin.«zip.__new__» ⟨[.type "zip", .ref l1, .ref l2, .ref l3, .ref l4], []⟩) (fun _ R s => s.heap.IsList l1 xs ∧ s.heap.IsList l2 ys ∧ s.heap.IsList l3 zs ∧ s.heap.IsList l4 ws ∧
      R (.ok (.ret (.ref (qH6 s.heap l1 l2 l3 l4).objs.size))) { s with heap := qH7 s.heap l1 l2 l3 l4 }) :=
  .of_wp fun prog w A R s h => by
    obtain ⟨hp, g, d, tk, os⟩ := s; obtain ⟨h1, h2, h3, h4, h⟩ := h
    have hsub := sub_zip
    have hL1 : Heap.IsList (Shared.heap ⟨hp, g, d, tk, os⟩) l1 xs := h1
    have hL2 : Heap.IsList (Shared.heap ⟨qIt hp l1, g, d, tk, os⟩) l2 ys := Heap.IsList.push h2 _
    have hL3 : Heap.IsList (Shared.heap ⟨qIt (qIt hp l1) l2, g, d, tk, os⟩) l3 zs := Heap.IsList.push (Heap.IsList.push h3 _) _
    have hL4 : Heap.IsList (Shared.heap ⟨qIt (qIt (qIt hp l1) l2) l3, g, d, tk, os⟩) l4 ws := Heap.IsList.push (Heap.IsList.push (Heap.IsList.push h4 _) _) _
    wp_walk using wpAny_pyIter_list hL1, wpAny_pyIter_list hL2, wpAny_pyIter_list hL3, wpAny_pyIter_list hL4
    exact ⟨_, rfl, h⟩
section
variable {prog : Program} {w : World} {A : Around} {E : Value → Shared → Prop} {s : Shared}
theorem call_zip_4 {l1 l2 l3 l4 : Addr} {xs ys zs ws : Array Value} {Q : Value → Shared → Prop} (h1 : s.heap.IsList l1 xs) (h2 : s.heap.IsList l2 ys) (h3 : s.heap.IsList l3 zs) (h4 : s.heap.IsList l4 ws)
    (h : ∀ h', IsZ h' s.heap.objs.size .none false → Z4 s.heap.objs.size l1 l2 l3 l4 xs ys zs ws 0 h' → h'.objs.size = s.heap.objs.size + 7 → (∀ c o, s.heap.get? c = some o → h'.get? c = some o) → Q (.ref (s.heap.objs.size + 6)) { s with heap := h' }) :
    wpAny (model prog w) A (call (.type "zip") [.ref l1, .ref l2, .ref l3, .ref l4]) Q E s := by
  refine callType_new F.called_zip (by decide) (typeCall_zip_4 _ _ _ _) (newCall_zip_4 _ _ _ _) (fun obj => args_init_5 obj _ _ _ _) F.entry_zip_new
    (meets_zip_4 l1 l2 l3 l4 xs ys zs ws) ⟨h1, h2, h3, h4, ?_⟩
  have z1 : (qIt s.heap l1).objs.size = s.heap.objs.size + 1 := Heap.size_push ..
  have z2 : (qIt (qIt s.heap l1) l2).objs.size = s.heap.objs.size + 2 := by rw [Heap.size_push, z1]
  have z3 : (qIt (qIt (qIt s.heap l1) l2) l3).objs.size = s.heap.objs.size + 3 := by rw [Heap.size_push, z2]
  have z4 : (qH4 s.heap l1 l2 l3 l4).objs.size = s.heap.objs.size + 4 := by rw [Heap.size_push, z3]
  have z5 : (qH5 s.heap l1 l2 l3 l4).objs.size = s.heap.objs.size + 5 := by rw [Heap.size_push, z4]
  have z6 : (qH6 s.heap l1 l2 l3 l4).objs.size = s.heap.objs.size + 6 := by rw [Heap.size_push, z5]
  have z7 : (qH7 s.heap l1 l2 l3 l4).objs.size = s.heap.objs.size + 7 := by rw [Heap.size_push, z6]
  have p : ∀ (h : Heap) (a : Addr) (o o' : Obj), h.get? a = some o → (h.push o').get? a = some o := fun h a o o' e => Heap.get?_push_of_some _ e
  have g7 : (qH7 s.heap l1 l2 l3 l4).get? (qH6 s.heap l1 l2 l3 l4).objs.size = some _ := Heap.get?_push_size _ rfl
  have g6 : (qH7 s.heap l1 l2 l3 l4).get? (qH5 s.heap l1 l2 l3 l4).objs.size = some _ := p _ _ _ _ (Heap.get?_push_size _ rfl)
  have g5 : (qH7 s.heap l1 l2 l3 l4).get? (qH4 s.heap l1 l2 l3 l4).objs.size = some _ := p _ _ _ _ (p _ _ _ _ (Heap.get?_push_size _ rfl))
  have g4 : (qH7 s.heap l1 l2 l3 l4).get? (qIt (qIt (qIt s.heap l1) l2) l3).objs.size = some _ := p _ _ _ _ (p _ _ _ _ (p _ _ _ _ (Heap.get?_push_size _ rfl)))
  have g3 : (qH7 s.heap l1 l2 l3 l4).get? (qIt (qIt s.heap l1) l2).objs.size = some _ := p _ _ _ _ (p _ _ _ _ (p _ _ _ _ (p _ _ _ _ (Heap.get?_push_size _ rfl))))
  have g2 : (qH7 s.heap l1 l2 l3 l4).get? (qIt s.heap l1).objs.size = some _ := p _ _ _ _ (p _ _ _ _ (p _ _ _ _ (p _ _ _ _ (p _ _ _ _ (Heap.get?_push_size _ rfl)))))
  have g1 : (qH7 s.heap l1 l2 l3 l4).get? s.heap.objs.size = some _ := p _ _ _ _ (p _ _ _ _ (p _ _ _ _ (p _ _ _ _ (p _ _ _ _ (p _ _ _ _ (Heap.get?_push_size _ rfl))))))
  have k : ∀ c o, s.heap.get? c = some o → (qH7 s.heap l1 l2 l3 l4).get? c = some o := fun c o e => p _ _ _ _ (p _ _ _ _ (p _ _ _ _ (p _ _ _ _ (p _ _ _ _ (p _ _ _ _ (p _ _ _ _ e))))))
  show _ ∧ _
  rw [z4, z5, z6] at g7
  rw [z5] at g6
  rw [z1, z2, z3, z4] at g5
  rw [z3] at g4
  rw [z2] at g3
  rw [z1] at g2
  rw [z6]
  exact ⟨⟨_, g7, rfl⟩, h _ g7 ⟨⟨g5, ⟨_, g1, rfl, rfl⟩, ⟨_, g2, rfl, rfl⟩, ⟨_, g3, rfl, rfl⟩, ⟨_, g4, rfl, rfl⟩, h1.at (k _), h2.at (k _), h3.at (k _), h4.at (k _)⟩, .inl ⟨g7, g6⟩⟩ z7 k⟩

/-! ### list(it) of an iterator -/
theorem list_of {T : String} {I : Addr} {Q : Value → Shared → Prop} (hT : s.TypeIs (.ref I) T) (n1 : (Value.type T == Value.type "list") = false) (n2 : (Value.type T == Value.type "tuple") = false)
    (iter : ∀ (h : Heap) (A' : Around) (R : Value → Shared → Prop) (E' : Value → Shared → Prop), (∀ b o, s.heap.get? b = some o → h.get? b = some o) → R (.ref I) { s with heap := h } → wpAny (model prog w) A' (pyIter (.ref I)) R E' { s with heap := h })
    (hint : ∀ (h : Heap) (A' : Around) (R : Bool → Shared → Prop) (E' : Value → Shared → Prop), (∀ b o, s.heap.get? b = some o → h.get? b = some o) → (∀ b, R b { s with heap := h }) → wpAny (model prog w) A' (Builtin.List.listLengthHint (.ref I)) R E' { s with heap := h })
    (loop : ∀ (h : Heap) (c : Nat), (∀ b o, s.heap.get? b = some o → h.get? b = some o) → h.objs.size = s.heap.objs.size + 1 → h.get? s.heap.objs.size = some { cls := .type "list", data := .seq #[] c } →
      codeAny (model prog w) A.in1 (.builtin "list.extend.loop" ⟨[.ref s.heap.objs.size, .ref I, .none], []⟩) (wants (fun r s₂ => r = .none ∧ Q (.ref s.heap.objs.size) s₂) E) { s with heap := h }) :
    wpAny (model prog w) A (call (.type "list") [.ref I]) Q E s := by
  obtain ⟨oi, hoi, hci⟩ := id hT
  have hSI : s.heap.objs.size ≠ I := Nat.ne_of_gt (Heap.lt_size hoi)
  refine callType_codes (Q₁ := fun obj s₁ => obj = .ref s.heap.objs.size ∧ s₁ = { s with heap := s.heap.push { cls := .type "list", data := .seq #[] } }) F.called_list (F.typeCall_list_1 _) F.entry_list_init
    (code_list_new _ ⟨rfl, rfl⟩) fun obj s₁ h₁ => ?_
  obtain ⟨rfl, rfl⟩ := h₁
  have hS : (s.heap.push { cls := .type "list", data := .seq #[] }).get? s.heap.objs.size = some { cls := .type "list", data := .seq #[] } := Heap.get?_push_size _ rfl
  refine ⟨⟨_, hS, rfl⟩, F.args_list_init_2 _ _, ?_⟩
  show wpAny _ A.in1.in1 (do let old ← Builtin.List.listItems (.ref s.heap.objs.size); Builtin.List.listUpdate (.ref s.heap.objs.size) (fun _ => #[]); letGo old.toList.reverse; Builtin.List.listExtendWith (.ref s.heap.objs.size) (.ref I) .none) _ _ _
  refine wpAny_bind ?_
  unfold Builtin.List.listItems
  refine wpAny_bind (wpAny_seqItems hS rfl (wpAny_pure ?_))
  show wpAny _ A.in1.in1 (updateSeq s.heap.objs.size (fun _ => #[]) >>= fun _ => letGo (#[] : Array Value).toList.reverse >>= fun _ => Builtin.List.listExtendWith (.ref s.heap.objs.size) (.ref I) .none) _ _ _
  refine wpAny_bind (wpAny_updateSeq hS rfl ?_)
  have hS2 := Heap.get?_update_self (Obj.mapSeq (fun _ => (#[] : Array Value))) hS rfl
  refine wpAny_bind (wpAny_letGo ?_)
  unfold Builtin.List.listExtendWith
  have up : ∀ (h : Heap) (f : Obj → Obj), (∀ b o, s.heap.get? b = some o → h.get? b = some o) → ∀ b o, s.heap.get? b = some o → (h.update s.heap.objs.size f).get? b = some o := fun h f q b o e =>
    (Heap.get?_update_other _ _ (Ne.symm (Nat.ne_of_lt (Heap.lt_size e)))).trans (q b o e)
  have k1 : ∀ b o, s.heap.get? b = some o → (s.heap.push { cls := .type "list", data := .seq #[] }).get? b = some o := fun b o e => Heap.get?_push_of_some _ e
  have k2 := up _ (Obj.mapSeq (fun _ => (#[] : Array Value))) k1
  refine wpAny_bind (wpAny_typeOf (T := T) ⟨oi, k2 _ _ hoi, hci⟩ ?_)
  have h1 : Builtin.List.listSameRef (.ref s.heap.objs.size) (.ref I) = false := by simp [Builtin.List.listSameRef, hSI]
  simp only [h1, n1, n2, Bool.or_false, Bool.false_eq_true, if_false]
  refine wpAny_bind (iter _ _ _ _ k2 ?_)
  refine wpAny_bind (wpAny_holding (hint _ _ _ _ k2 fun bb => ?_))
  have z1 : (s.heap.push { cls := .type "list", data := .seq #[] }).objs.size = s.heap.objs.size + 1 := Heap.size_push ..
  have zu : ∀ (h : Heap) (f : Obj → Obj), (h.update s.heap.objs.size f).objs.size = h.objs.size := fun h f => Heap.size_update ..
  refine wpAny_ite_split (fun _ => ?_) (fun _ => wpAny_pure ⟨plainId_quiet F.plain_extend_loop _, loop _ _ k2 (by rw [zu, z1]) hS2⟩)
  refine wpAny_bind (wpAny_rule ?_)
  refine wpAny_bind ?_
  show wpAny _ A.in1.in1 (updateSeq s.heap.objs.size (·.push .none) >>= fun _ => updateSeq s.heap.objs.size (·.pop)) _ _ _
  refine wpAny_bind (wpAny_updateSeq hS2 rfl ?_)
  have hS3 := Heap.get?_update_self (Obj.mapSeq (·.push Value.none)) hS2 rfl
  refine wpAny_updateSeq (hz := by seq_fits) hS3 rfl ?_
  have hS4 := Heap.get?_update_self (Obj.mapSeq (·.pop)) hS3 rfl
  have k4 := up _ (Obj.mapSeq (·.pop)) (up _ (Obj.mapSeq (·.push Value.none)) k2)
  exact wpAny_pure ⟨plainId_quiet F.plain_extend_loop _, loop _ _ k4 (by rw [zu, zu, zu, z1]) hS4⟩
theorem nolen_zip : typeLookup (.type "zip") "__len__" = pure none := by rw [typeLookup_type, builtinLookup_eq_fast]; kernel_rfl
theorem nohint_zip : typeLookup (.type "zip") "__length_hint__" = pure none := by rw [typeLookup_type, builtinLookup_eq_fast]; kernel_rfl
theorem hint_zip {I : Addr} {R : Bool → Shared → Prop} (hT : s.TypeIs (.ref I) "zip") (h : ∀ b, R b s) : wpAny (model prog w) A (Builtin.List.listLengthHint (.ref I)) R E s := by
  unfold Builtin.List.listLengthHint
  refine wpAny_bind (wpAny_specialOf hT nolen_zip ?_)
  show wpAny _ A (specialOf (Value.ref I) (Str.ofString "__length_hint__") >>= _) _ _ _
  refine wpAny_bind (wpAny_specialOf hT nohint_zip ?_)
  exact wpAny_pure (h _)
end
end Den
namespace Den
open PySem PySem.Spec PyProof.Rows L2

/-! ### list(zip(a, b, c, d)), four lists of one length -/
/-- what the walk gathers: P i acc H after i turns -/
def Gather (n S : Nat) (yld : Nat → HO → Prop) (Q : VK) (P : Nat → List V → Hp → Prop) : Prop :=
  (∀ i acc H' o, i < n → yld i o → P i acc H' → H' S = some (.lst acc) ∧ acc.length = i ∧ ∀ T, H' T = none → P (i + 1) (acc ++ [.ref T]) (upd (upd H' T o) S (.lst (acc ++ [.ref T])))) ∧ ∀ acc H', P n acc H' → Q (.ref S) H'
def y4 (xs ys zs ws : List V) (i : Nat) (o : HO) : Prop := ∃ x y z w, xs[i]? = some x ∧ ys[i]? = some y ∧ zs[i]? = some z ∧ ws[i]? = some w ∧ o = .tup [x, y, z, w]
def tLz4 (K : PySem.W.Frag) (ta : TA) : TE := fun σ H Q => ta σ H fun vs H1 => ∃ (a b c d : Addr) (xs ys zs ws : List V), vs = [.ref a, .ref b, .ref c, .ref d] ∧ SqL K H1 a xs ∧ SqL K H1 b ys ∧ SqL K H1 c zs ∧ SqL K H1 d ws ∧
  ys.length = xs.length ∧ zs.length = xs.length ∧ ws.length = xs.length ∧ ∀ S, H1 S = none → ∃ P, P 0 [] (upd H1 S (.lst [])) ∧ Gather xs.length S (y4 xs ys zs ws) Q P
theorem Z4.mv {b l1 l2 l3 l4 : Nat} {xs ys zs ws : Array Value} {i : Nat} {h h' : Heap} (C : Z4 b l1 l2 l3 l4 xs ys zs ws i h) (d1 : l1 < b) (d2 : l2 < b) (d3 : l3 < b) (d4 : l4 < b) (k : ∀ c o, c ≠ b + 7 → h.get? c = some o → h'.get? c = some o) : Z4 b l1 l2 l3 l4 xs ys zs ws i h' := by
  refine ⟨C.1.mv fun c o hc e => k c o (by (simp only [Addr] at *; omega)) e, ?_⟩
  rcases C.2 with ⟨q1, q2⟩ | ⟨T, f, o, q1, q2, q3⟩
  · exact .inl ⟨k _ _ (by (simp only [Addr] at *; omega)) q1, k _ _ (by (simp only [Addr] at *; omega)) q2⟩
  · exact .inr ⟨T, f, o, k _ _ (by (simp only [Addr] at *; omega)) q1, k _ _ (by (simp only [Addr] at *; omega)) q2, q3⟩
section
variable {X : Cx} {pins : List (Addr × Obj)} {σ : L2.St}
theorem lz_loop {A : Around} {Rs : Result → Shared → Prop} {b l1 l2 l3 l4 : Nat} {xs ys zs ws : List V} {i1 i2 i3 i4 : List Value} {Q : VK} {P : Nat → List V → Hp → Prop} (hh : A.handled = none) (d1 : l1 < b) (d2 : l2 < b) (d3 : l3 < b) (d4 : l4 < b)
    (v1 : Vals xs i1) (v2 : Vals ys i2) (v3 : Vals zs i3) (v4 : Vals ws i4) (e2 : ys.length = xs.length) (e3 : zs.length = xs.length) (e4 : ws.length = xs.length) (hz : xs.length ≤ sizeLine)
    (hg : Gather xs.length (b + 7) (y4 xs ys zs ws) Q P) (fin : ∀ s' H', Inv X pins σ H' s' → Q (.ref (b + 7)) H' → Rs (.ok (.ret .none)) s') :
    ∀ (k i : Nat) (acc : List V) (H : Hp) (s : Shared), xs.length - i = k → i ≤ xs.length → Inv X pins σ H s → P i acc H → H (b + 7) = some (.lst acc) → acc.length = i → Z4 b l1 l2 l3 l4 i1.toArray i2.toArray i3.toArray i4.toArray i s.heap →
      (∀ c ∈ [b, b + 1, b + 2, b + 3, b + 4, b + 5, b + 6], FpOk X pins H c) → codeAny (model X.prog X.w) A (.builtin "list.extend.loop" ⟨[.ref (b + 7), .ref (b + 6), .none], []⟩) Rs s := by
  intro k
  induction k with
  | zero =>
    intro i acc H s hk hi I hP hS ha hZ hf
    have ei : i = xs.length := by omega
    subst ei
    refine codeAny_builtin PySem.F.entry_extend_loop ?_
    rw [Around.under_plainId PySem.F.plain_extend_loop _]
    show wpAny _ A.in1 (pyNext (.ref (b + 6)) >>= _) _ _ s
    have hn : i1.toArray[xs.length]? = none := by simp [v1.length]
    refine wpAny_bind (next4_end hh d1 d2 d3 d4 hZ hn fun h' hk => ?_)
    have I1 : Inv X pins σ H { s with heap := h' } := I.turnedL (t' := s.toks) (ch := [b, b + 1, b + 2, b + 3, b + 4, b + 5, b + 6]) hk hf
    exact wpAny_pure (fin _ H I1 (hg.2 acc H hP))
  | succ k ih =>
    intro i acc H s hk hi I hP hS ha hZ hf
    have hlt : i < xs.length := by omega
    refine codeAny_builtin PySem.F.entry_extend_loop ?_
    rw [Around.under_plainId PySem.F.plain_extend_loop _]
    show wpAny _ A.in1 (pyNext (.ref (b + 6)) >>= _) _ _ s
    obtain ⟨u1, f1, r1⟩ := v1.get (List.getElem?_eq_getElem hlt)
    obtain ⟨u2, f2, r2⟩ := v2.get (List.getElem?_eq_getElem (show i < ys.length by omega))
    obtain ⟨u3, f3, r3⟩ := v3.get (List.getElem?_eq_getElem (show i < zs.length by omega))
    obtain ⟨u4, f4, r4⟩ := v4.get (List.getElem?_eq_getElem (show i < ws.length by omega))
    obtain ⟨z0, it0, c0, w0, le0, eS⟩ := I.lstM hS
    have hbs : b + 7 < s.heap.objs.size := Heap.lt_size eS
    refine wpAny_bind (next4_item hbs d1 d2 d3 d4 hZ (by simpa using f1) (by simpa using f2) (by simpa using f3) (by simpa using f4) fun h' hZ' hT hsz hk => ?_)
    have nT : H s.heap.objs.size = none := I.hok.fresh (Nat.le_refl _)
    have new : ObjOk X.prog X.w (upd H s.heap.objs.size (.tup [xs[i], ys[i], zs[i], ws[i]])) h' s.heap.objs.size (.tup [xs[i], ys[i], zs[i], ws[i]]) :=
      ⟨by show 4 ≤ sizeLine; decide, [u1, u2, u3, u4], .cons r1 (.cons r2 (.cons r3 (.cons r4 .nil))), ⟨_, hT, rfl, _, rfl⟩⟩
    have I1 : Inv X pins σ (upd H s.heap.objs.size (.tup [xs[i], ys[i], zs[i], ws[i]])) { s with heap := h' } := I.turnedNew (t' := s.toks) (ch := [b, b + 1, b + 2, b + 3, b + 4, b + 5, b + 6]) hk hf (Nat.le_refl _) new
    have hne : b + 7 ≠ s.heap.objs.size := Nat.ne_of_lt hbs
    have hS1 : upd H s.heap.objs.size (.tup [xs[i], ys[i], zs[i], ws[i]]) (b + 7) = some (.lst acc) := by rw [upd_ne hne]; exact hS
    obtain ⟨z1, it1, c1, w1, le1, eS1⟩ := I1.lstM hS1
    show wpAny _ A.in1 (updateSeq (b + 7) (·.push (.ref s.heap.objs.size)) >>= _) _ _ _
    have hl : it1.length < sizeLine := by omega
    refine wpAny_bind (wpAny_updateSeq eS1 rfl (wpAny_pure ⟨plainId_quiet PySem.F.plain_extend_loop _, ?_⟩) (by rw [List.size_toArray]; omega) (by show (it1.toArray.push _).size ≤ sizeLine + 1; rw [Array.size_push, List.size_toArray]; omega))
    obtain ⟨_, _, hPn⟩ := hg.1 i acc H _ hlt ⟨_, _, _, _, List.getElem?_eq_getElem hlt, List.getElem?_eq_getElem (show i < ys.length by omega), List.getElem?_eq_getElem (show i < zs.length by omega), List.getElem?_eq_getElem (show i < ws.length by omega), rfl⟩ hP
    have I2 := I1.lset (its' := it1 ++ [.ref s.heap.objs.size]) (f := (·.push (.ref s.heap.objs.size))) (ys := acc ++ [.ref s.heap.objs.size]) (t' := s.toks) hS1 eS1 (by simp) (w1.append (.cons (show L2.RelV (.ref s.heap.objs.size) (.ref s.heap.objs.size) from rfl) .nil)) (by rw [List.length_append, List.length_singleton]; omega)
    refine ih (i + 1) (acc ++ [.ref s.heap.objs.size]) _ _ (by omega) hlt I2 (hPn _ nT) upd_same (by rw [List.length_append, List.length_singleton]; omega) (hZ'.mv d1 d2 d3 d4 fun c o hc e => (Heap.get?_update_other _ _ (Ne.symm hc)).trans e) fun c hc => ?_
    obtain ⟨q0, q1⟩ := hf c hc
    simp only [List.mem_cons, List.not_mem_nil, or_false] at hc
    refine ⟨?_, q1⟩
    rw [upd_ne (show c ≠ b + 7 by (simp only [Addr] at *; omega)), upd_ne (show c ≠ s.heap.objs.size by (simp only [Addr] at *; omega))]
    exact q0
theorem boot_listZ : bootBuiltins "list" = some (.type "list") := by decide +kernel
theorem pe_lz4 {e1 e2 e3 e4 : Expr} {ta : TA} {p p2 q pos : Pos} (hc : X.calm = true) (hg : Gl X "list") (hm : X.mg "list" = none) (hg2 : Gl X "zip") (hm2 : X.mg "zip" = none) (ha : PA X [e1, e2, e3, e4] ta)
    (hs : starEach [e1, e2, e3, e4] X.env = (false, eval e1 X.env) :: starEach [e2, e3, e4] X.env) (hpl : (backTo q (starEach [e2, e3, e4] X.env)).any (·.1) = false) :
    PE X (.Call (.Name "list" p) [.Call (.Name "zip" p2) [e1, e2, e3, e4] [] q] [] pos) (tLz4 X.K ta) := by
  refine ⟨fun pins s σ H Q I h => ?_⟩
  have na : starEach [.Call (.Name "zip" p2) [e1, e2, e3, e4] [] q] X.env = (false, eval (.Call (.Name "zip" p2) [e1, e2, e3, e4] [] q) X.env) :: starEach [] X.env := rfl
  refine Call_ (ld_blt I hg hm boot_listZ (PyProof.Rows.callWith_type1 (PyProof.Rows.args_cons (Call_ (ld_blt I hg2 hm2 PyProof.Rows.boot_zip (PyProof.Rows.callWith_type1 (thn (ha.run q pins s σ H _ I h) fun us s1 ⟨vs, H1, I1, r1, q1⟩ => ?_) hs hpl))) na) na rfl))
  obtain ⟨a, b, c, d, xs, ys, zs, ws, rfl, k1, k2, k3, k4, l2, l3, l4, hq⟩ := q1
  cases r1 with
  | cons ra rr =>
    cases rr with
    | cons rb rr =>
      cases rr with
      | cons rc rr =>
        cases rr with
        | cons rd rr =>
          cases rr
          cases ra
          cases rb
          cases rc
          cases rd
          obtain ⟨i1, v1, p1, z1⟩ := I1.list k1
          obtain ⟨i2, v2, p2, z2⟩ := I1.list k2
          obtain ⟨i3, v3, p3, z3⟩ := I1.list k3
          obtain ⟨i4, v4, p4, z4⟩ := I1.list k4
          refine call_zip_4 p1.isList p2.isList p3.isList p4.isList fun h' hz0 hZ hsz hk => ?_
          refine PyProof.Rows.args_nil ?_
          have I2 : Inv X pins σ H1 { s1 with heap := h' } := I1.kept (t' := s1.toks) hk
          have hT : (Shared.mk h' s1.gens s1.drawn s1.toks s1.os).TypeIs (.ref (s1.heap.objs.size + 6)) "zip" := ⟨_, hz0, rfl⟩
          have hd := I1.ok.hd hc
          refine list_of (s := { s1 with heap := h' }) hT (by decide) (by decide) (fun g A' R E' kg hR => ?_) (fun g A' R E' kg hR => ?_) fun g c kg gs gS => ?_
          · exact wpAny_pyIter_zip (s := { s1 with heap := g }) (kg _ _ hz0) hR
          · exact hint_zip (s := { s1 with heap := g }) ⟨_, kg _ _ hz0, rfl⟩ hR
          have eS : h'.objs.size = s1.heap.objs.size + 7 := hsz
          have gS : g.get? (s1.heap.objs.size + 7) = some { cls := .type "list", data := .seq ([] : List Value).toArray c } := by rw [← eS]; exact gS
          have nS : H1 (s1.heap.objs.size + 7) = none := I1.hok.fresh (Nat.le_add_right _ _)
          obtain ⟨P, hP, hG⟩ := hq _ nS
          have I3 : Inv X pins σ (upd H1 (s1.heap.objs.size + 7) (.lst [])) { s1 with heap := g } := I2.laid (t' := s1.toks) kg (by show h'.objs.size ≤ _; rw [eS]; exact Nat.le_refl _) ⟨Nat.zero_le _, [], c, .nil, gS⟩
          show codeAny _ _ (.builtin "list.extend.loop" ⟨[.ref h'.objs.size, .ref (s1.heap.objs.size + 6), .none], []⟩) _ _
          rw [eS]
          refine lz_loop (X := X) (pins := pins) (σ := σ) (Q := Q) (show X.A.in1.handled = none from hd) p1.lt p2.lt p3.lt p4.lt v1 v2 v3 v4 l2 l3 l4 z1 hG (fun s' H' I' q => ⟨rfl, .ref (s1.heap.objs.size + 7), H', I', (show L2.RelV (.ref (s1.heap.objs.size + 7)) (.ref (s1.heap.objs.size + 7)) from rfl), q⟩) _ 0 [] _ _ rfl (Nat.zero_le _) I3 hP upd_same rfl
            (hZ.mv p1.lt p2.lt p3.lt p4.lt fun c o hc e => kg c o e) fun c hc => ?_
          have e' : s1.heap.objs.size ≤ c ∧ c ≠ s1.heap.objs.size + 7 := by
            simp only [List.mem_cons, List.not_mem_nil, or_false] at hc
            constructor <;> (simp only [Addr] at *; omega)
          exact I1.fpOk e'.1 (by rw [upd_ne e'.2]; exact I1.hok.fresh e'.1)
end
end Den
namespace Den
open PySem PySem.Spec PyProof.Rows L2

/-! ### set(a list of ints), sorted(a set of ints), fewer than 4095 -/
section
variable {P : Program} {w : World} {A : Around} {E : Value → Shared → Prop} {s : Shared}
abbrev setNew (w : World) : Obj := { cls := .type "set", dict := none, data := .set #[] 0 (.fresh 0 0 (!w.params.followText "set-order")) }
set_option maxHeartbeats 3200000 in
theorem call_set_lstI {l : Addr} {items : Array Value} (ns : List Int) {Q : Value → Shared → Prop} (hh : A.handled = none) (hl : s.heap.IsList l items) (hit : IntsAre items.toList ns) (hb : ns.length + 1 < scanBound)
    (h : ∀ (h' : Heap) (tk c : Nat), SetR w h' s.heap.objs.size (fun j => decide (j ∈ ns)) c → c ≤ ns.length → (∀ b o, s.heap.get? b = some o → h'.get? b = some o) → Q (.ref s.heap.objs.size) { s with heap := h', toks := tk }) :
    wpAny (model P w) A (call (.type "set") [.ref l]) Q E s := by
  have sz : items.size = ns.length := by rw [← Array.length_toList]; exact IntsAre.length hit
  obtain ⟨c, tl, hmro⟩ := PySem.F.called_set.mro
  have m1 := PySem.F.called_set.made
  have m2 := PySem.F.called_set.sub
  have m3 := PySem.F.called_set.notType
  have m4 := PySem.F.called_set.canCreate
  have m5 := PySem.F.typeCall_set_1 (.ref l)
  refine wpAny_call (codeAny_of_tree ?_)
  show wpAny _ _ (callAny (.type "set") _) _ _ _
  refine wpAny_pure ⟨Code.quiet_builtin _ (by decide +kernel), codeAny_builtin PySem.F.entry_type_call ?_⟩
  rw [Around.under_plain (weight_type_call_type "set" [.ref l] []) rfl]
  repeat (any_goals (first | assumption | wp_step))
  have new : codeAny (model P w) A.in1 (.call (.builtin "set.__new__") ⟨[.type "set", .ref l], []⟩) (wants (fun obj s₁ => obj = .ref s.heap.objs.size ∧ s₁ = { s with heap := s.heap.push (setNew w) }) E) s :=
    code_set_led1 (.ref l) ⟨rfl, rfl⟩
  refine codeAny_mono new fun r s₁ hr => ?_
  cases r with
  | error e => exact hr
  | ok fl =>
   cases fl with
   | next => exact hr.elim
   | brk => exact hr.elim
   | cont => exact hr.elim
   | ret obj =>
    obtain ⟨rfl, rfl⟩ := hr
    have hS : (s.heap.push (setNew w)).get? s.heap.objs.size = some (setNew w) := Heap.get?_push_size _ rfl
    have hT : Shared.TypeIs { s with heap := s.heap.push (setNew w) } (.ref s.heap.objs.size) "set" := ⟨_, hS, rfl⟩
    have hli := PySem.F.called_set.init.lookup
    have hbi := PySem.F.called_set.init.bind (.ref s.heap.objs.size)
    repeat (any_goals (first | assumption | wp_step))
    refine codeAny_mono (codeAny_call_builtin (R := wants (fun r s₂ => r = .none ∧ ∃ h' tk c, s₂ = { s with heap := h', toks := tk } ∧ SetR w h' s.heap.objs.size (fun j => decide (j ∈ ns)) c ∧ c ≤ ns.length ∧
        (∀ b o, s.heap.get? b = some o → h'.get? b = some o)) E) PySem.F.called_set.init.plain PySem.F.entry_set_init (check_set_init_1 hT ?_)) fun r₂ s₂ hr₂ => ?_
    · obtain ⟨⟨ocls, odict, odata, oslots⟩, hol, hcl, nl, hdl⟩ := id hl
      simp only at hcl hdl
      subst hcl hdl
      have u1 := PySem.F.sub_list_set
      have u2 := PySem.F.sub_list_frozenset
      have u3 : (Value.type "list" == Value.type "dict") = false := by decide
      have hol' : (s.heap.push (setNew w)).get? l = some { cls := .type "list", dict := odict, data := .seq items nl, slots := oslots } := Heap.get?_push_of_some _ hol
      have hl1 : (s.heap.push (setNew w)).IsList l items := ⟨_, hol', rfl, nl, rfl⟩
      unfold Builtin.«set.__init__» noKeywords Builtin.Frozenset.updateFrom
      generalize hPI : pyIter = PI
      wp_walk
      subst hPI
      refine wpAny_pyIter_list hl1 (wpAny_bind (wpAny_runValue ?_))
      have lt : l < s.heap.objs.size := Heap.lt_size hol
      have z1 : (s.heap.push (setNew w)).objs.size = s.heap.objs.size + 1 := Heap.size_push ..
      have neI : l ≠ (s.heap.push (setNew w)).objs.size := by rw [z1]; (simp only [Addr] at *; omega)
      have nf : s.heap.objs.size ∉ [(s.heap.push (setNew w)).objs.size, l] := by
        rw [z1]; simp only [List.mem_cons, List.not_mem_nil, or_false, not_or]; constructor <;> (simp only [Addr] at *; omega)
      have val : ∀ (i : Nat) (v : Value), items[i]? = some v → ∃ k t, ns[i]? = some k ∧ v = .int k t := fun i v hv => by
        have hi : i < ns.length := by rw [← sz]; exact (Array.getElem?_eq_some_iff.mp hv).1
        obtain ⟨t, e⟩ := PyProof.Rows.IntsAre.int_at hit i v (by rw [Array.getElem?_toList]; exact hv)
        refine ⟨ns[i], t, List.getElem?_eq_getElem hi, ?_⟩
        rw [e, List.getD_eq_getElem?_getD, List.getElem?_eq_getElem hi] <;> rfl
      refine set_update_ints ((Walks.list (show A.in1.in1.in1.handled = none by simp [hh]) _ l neI items).toS) s.heap.objs.size nf ns sz hb val (items.size - 0) 0 _ (by omega) (Nat.zero_le _)
        ⟨⟨_, Heap.get?_push_size _ rfl, rfl, rfl⟩, (hl1.push _)⟩ ⟨0, Nat.le_refl 0, setR_new_at (Heap.get?_push_of_some _ hS)⟩ fun s' c' hm hc' hS' => ?_
      obtain ⟨h', g2, d', tk', os'⟩ := s'
      have eg : g2 = s.gens := hm.gens
      have ed : d' = s.drawn := hm.drawn
      have eo : os' = s.os := hm.os
      subst eg ed eo
      refine wpAny_pure ?_
      show wpAny _ _ (ret Value.none) _ _ _
      rw [sz] at hc'
      refine wpAny_pure ⟨rfl, h', tk', c', rfl, hS', hc', fun b o e => ?_⟩
      have hb0 : b < s.heap.objs.size := Heap.lt_size e
      exact hm.heap b o (by rw [z1]; simp only [List.mem_cons, List.not_mem_nil, or_false, not_or]; constructor <;> (simp only [Addr] at *; omega)) (Heap.get?_push_of_some _ (Heap.get?_push_of_some _ e))
    · cases r₂ with
      | error e => exact hr₂
      | ok fl₂ =>
        cases fl₂ with
        | ret r =>
          obtain ⟨rfl, h', tk, c', rfl, hS', hc', hk'⟩ := hr₂
          repeat (any_goals (first | assumption | wp_step))
          exact h _ _ _ hS' hc' hk'
        | _ => exact hr₂.elim
/-- sorted(a set of ints), of any length below the line -/
theorem sorted_setA {a : Addr} {S : Int → Bool} {n : Nat} {Q : Value → Shared → Prop} (R : SetR w s.heap a S n) (hh : A.handled = none)
    (hQ : ∀ s' p (out : List Value) (c : Nat) (ns : List Int), (∀ b o, s.heap.get? b = some o → s'.heap.get? b = some o) → s'.gens = s.gens → s'.os = s.os → s.heap.objs.size ≤ p →
      s'.heap.get? p = some (seqObj "list" out.toArray c) → IntsAre out ns → ns.Pairwise (· < ·) → (∀ k, k ∈ ns ↔ S k = true) → ns.length < scanBound → Q (.ref p) s') :
    wpAny (model P w) A (call (.builtin "sorted") [.ref a]) Q E s := by
  obtain ⟨o, es, ep, t, ho, hex, hd, g, nd, hm, hb, hf, hn, hr, hl⟩ := R
  refine Calls.call_function_entry kind_sorted plain_sorted entry_sorted (args_sorted1 _) ?_
  unfold Builtin.«sorted»
  refine wpAny_bind (m := checkCount "sorted" 1 1 _) (wpAny_pure ?_)
  refine wpAny_bind (collect_set (A := A.in1) hh ⟨o, ho, hex.1, hd⟩ hf hb hr hl fun s1 vs k1 hz g1 o1 pm => ?_)
  have hI : IntsAre vs (vs.map Builtin.Re.reRawOf) := ints_of vs fun v hv => by
    obtain ⟨e, he, q⟩ := List.mem_map.mp (pm.mem_iff.mp hv)
    obtain ⟨k, tk, h1, _⟩ := g e he
    exact ⟨k, tk, by rw [← q]; exact h1⟩
  have pk : (vs.map Builtin.Re.reRawOf).Perm (es.toList.map keyOf) := by
    have q := pm.map Builtin.Re.reRawOf
    rw [List.map_map] at q
    exact q
  have hlen : vs.length ≤ sizeLine := by
    rw [pm.length_eq, List.length_map, Array.length_toList]
    exact fits_of_scanBound hb
  refine wpAny_bind (wpAny_newList ?_ hlen)
  have hoL : (s1.heap.push (seqObj "list" vs.toArray 0)).get? s1.heap.objs.size = some (seqObj "list" vs.toArray 0) := Heap.get?_push_size _ rfl
  refine wpAny_bind (wpAny_holding (wpAny_call_entry slot_list_sort ⟨_, hoL, rfl⟩ entry_list_sort (SrtO.list_sort_ord SrtO.swo_int hoL hlen (fun h2 => SrtO.ints_sortable hI h2) fun out h1 h2 => ⟨_, rfl, ?_⟩) (args_list_sort _)))
  obtain ⟨c, hc⟩ := sortedHeap_at (vs := vs) (out := out.toArray) hoL
  obtain ⟨q1, q2, q3⟩ := SrtO.ints_out hI h1 h2
  have pn : (out.map SrtO.iv).Perm (es.toList.map keyOf) := q2.trans pk
  refine wpAny_pure ⟨_, rfl, hQ _ s1.heap.objs.size out c (out.map SrtO.iv) (fun b u e => ?_) g1 o1 hz hc q1 (lt_of_le_nodup _ q3 (pn.nodup_iff.mpr nd)) (fun k => by rw [pn.mem_iff, ← hm k]) ?_⟩
  · have q := k1 b u e
    have hlt := Heap.lt_size q
    show (sortedHeap (s1.heap.push (seqObj "list" vs.toArray 0)) s1.heap.objs.size vs out.toArray).get? b = some u
    rw [sortedHeap_old (Nat.ne_of_lt hlt) (by rw [size_push']; exact Nat.lt_succ_of_lt hlt)]
    exact Heap.get?_push_of_some _ q
  · rw [pn.length_eq, List.length_map, Array.length_toList]; exact hb
end
section
variable {X : Cx}
theorem boot_setY : bootBuiltins "set" = some (.type "set") := by decide +kernel
theorem boot_sortedY : bootBuiltins "sorted" = some (.builtin "sorted") := by decide +kernel
/-- sorted(set(xs)) -/
def tSset (K : PySem.W.Frag) (ta : TE) : TE := fun σ H Q => ta σ H fun x H1 => ∃ (a : Addr) (ns : List Int), x = .ref a ∧ SqL K H1 a (ns.map V.int) ∧ ns.length + 1 < scanBound ∧
  ∀ (ks : List Int) (p : Addr), ks.Pairwise (· < ·) → (∀ k, k ∈ ks ↔ k ∈ ns) → H1 p = none → Q (.ref p) (upd H1 p (.lst (ks.map V.int)))
theorem pe_sset {e : Expr} {ta : TE} {p p2 q pos : Pos} (hc : X.calm = true) (hg : Gl X "sorted") (hm : X.mg "sorted" = none) (hg2 : Gl X "set") (hm2 : X.mg "set" = none) (ha : PE X e ta)
    (na : starEach [e] X.env = (false, eval e X.env) :: starEach [] X.env) : PE X (.Call (.Name "sorted" p) [.Call (.Name "set" p2) [e] [] q] [] pos) (tSset X.K ta) := by
  refine ⟨fun pins s σ H Q I h => ?_⟩
  refine Call_ (ld_blt I hg hm boot_sortedY ?_)
  refine PyProof.Rows.callWith_builtin1 (PyProof.Rows.args_cons ?_ rfl) rfl rfl
  refine Call_ (ld_blt I hg2 hm2 boot_setY ?_)
  refine PyProof.Rows.callWith_type1 (PyProof.Rows.args_cons (thn (ha.run pins s σ H _ I h) fun v s1 ⟨x, H1, I1, r1, q1⟩ => PyProof.Rows.args_nil ?_) na) na rfl
  obtain ⟨a, ns, rfl, hs, hb, hq⟩ := q1
  cases r1
  obtain ⟨its, rv, pl, hz⟩ := I1.list hs
  refine call_set_lstI ns (I1.ok.hd hc) pl.isList (by simpa using rv.ints) hb fun h' tk c R hcn hk => ?_
  refine PyProof.Rows.args_nil ?_
  have I2 : Inv X pins σ H1 { s1 with heap := h', toks := tk } := I1.kept hk
  refine sorted_setA (s := { s1 with heap := h', toks := tk }) R (I1.ok.hd hc) fun s' p out c2 ks k g o hp hgt hi hs' hm' hl => ?_
  have hn : H1 p = none := I2.hok.fresh hp
  have hlen : (ks.map V.int).length ≤ sizeLine := by rw [List.length_map, sizeLine_eq]; unfold scanBound at hl; omega
  have J : Inv X pins σ (upd H1 p (.lst (ks.map V.int))) { ({ s1 with heap := h', toks := tk } : Shared) with heap := s'.heap, gens := s'.gens, drawn := s'.drawn, toks := s'.toks } :=
    I2.call (ch := []) (Un.laid k hp hn) (I2.hok.laid k hp ⟨hlen, out, c2, vals_of_ints hi, hgt⟩) (by rw [g]; exact I2.bare) (fun _ z => nomatch z)
  have e : s' = { ({ s1 with heap := h', toks := tk } : Shared) with heap := s'.heap, gens := s'.gens, drawn := s'.drawn, toks := s'.toks } := by
    cases s'
    cases s1
    cases o
    rfl
  rw [e]
  exact ⟨.ref p, _, J, rfl, hq ks p hs' (fun j => by rw [hm']; simp) hn⟩
/-- len(set(xs)) -/
def tLset (K : PySem.W.Frag) (ta : TE) : TE := fun σ H Q => ta σ H fun x H1 => ∃ (a : Addr) (ns : List Int), x = .ref a ∧ SqL K H1 a (ns.map V.int) ∧ ns.length + 1 < scanBound ∧ Q (.int ((PyProof.Rows.firstMet (fun i => ns.getD i 0) ns.length).length : Nat)) H1
end
end Den
namespace Den
open PySem PySem.Spec PyProof.Rows L2

/-! ### sorted(set(xs)), list(zip(..)), list(range(..)), list(reversed(..)) -/
section
variable {P : Program} {w : World} {A : Around} {E : Value → Shared → Prop} {s : Shared}
theorem hint_rev {it l : Addr} {i : Int} {R : Bool → Shared → Prop} (hit : s.heap.IsRevIter it l i) (h : ∀ b, R b s) : wpAny (model P w) A (Builtin.List.listLengthHint (.ref it)) R E s := by
  have hT := hit.typeIs
  unfold Builtin.List.listLengthHint
  refine wpAny_bind (wpAny_specialOf hT RT.nolen_lri ?_)
  show wpAny _ A (specialOf (Value.ref it) (Str.ofString "__length_hint__") >>= _) _ _ _
  refine wpAny_bind (wpAny_specialOf hT RT.hint_lri ?_)
  generalize hid : ("list_reverseiterator.__length_hint__" : String) = id0
  wp_delta
  rw [show splitId id0 = some ("list_reverseiterator", "__length_hint__") from by subst hid; decide +kernel]
  subst hid
  refine wpAny_bind (wpAny_isInstance (b := true) hT (by rw [isSubtype_type]; kernel_rfl) ?_)
  exact wpAny_pure (h _)
end
section
variable {X : Cx}
def tLrev (K : PySem.W.Frag) (te : TE) : TE := fun σ H Q => te σ H fun v H1 => ∃ (a : Addr) (xs : List V), v = .ref a ∧ SqL K H1 a xs ∧ ∀ q, H1 q = none → Q (.ref q) (upd H1 q (.lst xs.reverse))
theorem pe_lrev {e : Expr} {te : TE} {p p2 pos pos2 : Pos} (hc : X.calm = true) (hg : Gl X "list") (hm : X.mg "list" = none) (hg2 : Gl X "reversed") (hm2 : X.mg "reversed" = none) (he : PE X e te)
    (hs : starEach [e] X.env = (false, eval e X.env) :: starEach [] X.env) : PE X (.Call (.Name "list" p) [.Call (.Name "reversed" p2) [e] [] pos2] [] pos) (tLrev X.K te) := by
  refine ⟨fun pins s σ H Q I h => ?_⟩
  have hs2 : starEach [.Call (.Name "reversed" p2) [e] [] pos2] X.env = (false, eval (.Call (.Name "reversed" p2) [e] [] pos2) X.env) :: starEach [] X.env := rfl
  refine Call_ (ld_blt I hg hm boot_listZ (PyProof.Rows.callWith_type1 (PyProof.Rows.args_cons (Call_ (ld_blt I hg2 hm2 PyProof.Rows.boot_reversed (PyProof.Rows.callWith_type1 (PyProof.Rows.args_cons (thn (he.run pins s σ H _ I h) fun u s1 ⟨v, H1, I1, r1, q1⟩ => PyProof.Rows.args_nil ?_) hs) hs rfl))) hs2) hs2 rfl))
  obtain ⟨a, xs, ev, hq, q⟩ := q1
  subst ev
  obtain rfl : u = Value.ref a := r1
  obtain ⟨its, rv, p', hz⟩ := I1.list hq
  refine call_reversed_list p'.isList (PyProof.Rows.args_nil ?_)
  have k0 : ∀ b o, s1.heap.get? b = some o → (s1.heap.push (revObj a ((its.toArray.size : Int) - 1))).get? b = some o := fun b o e => Heap.get?_push_of_some _ e
  have I2 : Inv X pins σ H1 { s1 with heap := s1.heap.push (revObj a ((its.toArray.size : Int) - 1)) } := I1.kept (t' := s1.toks) k0
  obtain ⟨f0, f1, f2, f3, f4, f5⟩ := I1.fpOk (H' := H1) (b := s1.heap.objs.size) (Nat.le_refl _) (I1.hok.fresh (Nat.le_refl _))
  have hl := p'.isList
  obtain ⟨ol, hol, _⟩ := id hl
  have hne : a ≠ s1.heap.objs.size := Nat.ne_of_lt (Heap.lt_size hol)
  have hn : its.toArray.size ≤ sizeLine := by rw [List.size_toArray, ← rv.length]; exact hz
  have hit : (s1.heap.push (revObj a ((its.toArray.size : Int) - 1))).IsRevIter s1.heap.objs.size a ((its.toArray.size : Int) - 1) := ⟨_, Heap.get?_push_size _ rfl, rfl, rfl⟩
  have hd := I1.ok.hd hc
  have z1 : (s1.heap.push (revObj a ((its.toArray.size : Int) - 1))).objs.size = s1.heap.objs.size + 1 := Heap.size_push ..
  refine list_of (T := "list_reverseiterator") (s := { s1 with heap := s1.heap.push (revObj a ((its.toArray.size : Int) - 1)) }) ⟨_, Heap.get?_push_size _ rfl, rfl⟩ (by decide) (by decide) (fun g A' R E' kg hR => wpAny_pyIter_revIter (s := { s1 with heap := g }) (hit.at fun o e => kg _ o e) hR)
    (fun g A' R E' kg hR => hint_rev (s := { s1 with heap := g }) (hit.at fun o e => kg _ o e) hR) fun g c kg gs gS => ?_
  have e0 : ((its.toArray.size : Nat) : Int) - 1 - ((0 : Nat) : Int) = (its.toArray.size : Int) - 1 := by omega
  have hlt : a < s1.heap.objs.size := Heap.lt_size hol
  have hSf : (s1.heap.push (revObj a ((its.toArray.size : Int) - 1))).objs.size ∉ [s1.heap.objs.size, a] := by
    rw [z1]; simp only [List.mem_cons, List.not_mem_nil, or_false, not_or]; constructor <;> (simp only [Addr] at *; omega)
  refine codeAny_extend_loopS (Walks.listRev (prog := X.prog) (w := X.w) (A := X.A.in1.in1) hd s1.heap.objs.size a hne its.toArray).toS hn _ hSf .none its.toArray.size 0 _ #[] c rfl (Nat.zero_le _)
    ⟨Nat.zero_le _, by rw [e0]; exact hit.at fun o e => kg _ o e, (hl.push _).at fun o e => kg _ o e⟩ gS (ItemsOf.nil _) fun s' acc' c' hm hS' hacc => ?_
  have em := Moved.eq_with hm
  have kk : ∀ b o, b ≠ s1.heap.objs.size → (s1.heap.push (revObj a ((its.toArray.size : Int) - 1))).get? b = some o → s'.heap.get? b = some o := fun b o hb e => hm.heap b o (fun hmem => by
    rcases List.mem_cons.mp hmem with e' | hmem
    · exact absurd (Heap.lt_size e) (by rw [e']; exact Nat.lt_irrefl _)
    · exact hb (List.mem_singleton.mp hmem)) (kg b o e)
  have J := I2.turnedNew (h' := s'.heap) (t' := s'.toks) (ch := [s1.heap.objs.size]) (T := (s1.heap.push (revObj a ((its.toArray.size : Int) - 1))).objs.size) (ob := .lst xs.reverse) (fun b o hb e => kk b o (by simpa using hb) e) (fun b hb => by
      have eb : b = s1.heap.objs.size := by simpa using hb
      subst eb
      exact I1.fpOk (Nat.le_refl _) (I1.hok.fresh (Nat.le_refl _))) (Nat.le_refl _) (show ObjOk X.prog X.w _ _ _ (.lst xs.reverse) from ⟨by rw [List.length_reverse]; exact hz, acc'.toList, c', RT.vals_rev rv hacc, by rw [Array.toArray_toList]; exact hS'⟩)
  rw [em]
  exact ⟨rfl, .ref _, _, J, (show L2.RelV (.ref _) (.ref _) from rfl), q _ (I1.hok.fresh (by rw [z1]; exact Nat.le_succ _))⟩
end

section
variable {T : Tbl} {fn : Nat → List D → R D} {W : WX} {cls : Nat → Value} {d : Bool} {sc : Scope} {X : Cx}
theorem insU_mem (i k : Int) : ∀ l : List Int, k ∈ insU i l ↔ k = i ∨ k ∈ l
  | [] => by simp [insU]
  | j :: r => by
    rw [insU]
    split
    · simp
    · split
      · rename_i h; subst h; simp
      · rw [List.mem_cons, insU_mem i k r, List.mem_cons]
        constructor
        · rintro (h | h | h)
          · exact .inr (.inl h)
          · exact .inl h
          · exact .inr (.inr h)
        · rintro (h | h | h)
          · exact .inr (.inl h)
          · exact .inl h
          · exact .inr (.inr h)
theorem sortU_mem (k : Int) : ∀ l : List Int, k ∈ sortU l ↔ k ∈ l
  | [] => by simp [sortU]
  | i :: r => by rw [sortU, insU_mem, sortU_mem k r, List.mem_cons]
theorem insU_srt (i : Int) : ∀ l : List Int, l.Pairwise (· < ·) → (insU i l).Pairwise (· < ·)
  | [], _ => List.pairwise_singleton _ _
  | j :: r, h => by
    rw [List.pairwise_cons] at h
    rw [insU]
    split
    · rename_i hij
      refine List.pairwise_cons.mpr ⟨fun x hx => ?_, List.pairwise_cons.mpr h⟩
      rcases List.mem_cons.mp hx with e | hx
      · rw [e]; exact hij
      · exact Int.lt_trans hij (h.1 x hx)
    · split
      · exact List.pairwise_cons.mpr h
      · rename_i h1 h2
        refine List.pairwise_cons.mpr ⟨fun x hx => ?_, insU_srt i r h.2⟩
        rcases (insU_mem i x r).mp hx with e | hx
        · omega
        · exact h.1 x hx
theorem sortU_srt : ∀ l : List Int, (sortU l).Pairwise (· < ·)
  | [] => .nil
  | i :: r => insU_srt i _ (sortU_srt r)
theorem rising_uniq : ∀ {l m : List Int}, l.Pairwise (· < ·) → m.Pairwise (· < ·) → (∀ k, k ∈ l ↔ k ∈ m) → l = m
  | [], [], _, _, _ => rfl
  | [], y :: m, _, _, h => by have := (h y).mpr (by simp); simp at this
  | x :: l, [], _, _, h => by have := (h x).mp (by simp); simp at this
  | x :: l, y :: m, hl, hm, h => by
    rw [List.pairwise_cons] at hl hm
    have e : x = y := by
      have h1 := (h x).mp (by simp)
      have h2 := (h y).mpr (by simp)
      rcases List.mem_cons.mp h1 with e | h1
      · exact e
      · rcases List.mem_cons.mp h2 with e | h2
        · exact e.symm
        · have a := hl.1 y h2
          have b := hm.1 x h1
          omega
    subst e
    rw [rising_uniq hl.2 hm.2 fun k => ⟨fun hk => ?_, fun hk => ?_⟩]
    · have a := hl.1 k hk
      rcases List.mem_cons.mp ((h k).mp (List.mem_cons_of_mem _ hk)) with e | q
      · omega
      · exact q
    · have a := hm.1 k hk
      rcases List.mem_cons.mp ((h k).mpr (List.mem_cons_of_mem _ hk)) with e | q
      · omega
      · exact q
theorem snd_sset (C : Ctx T fn W cls d sc X) {a : Ex} {l : Expr} {p p2 q pos : Pos} (h1 : blt T sc "sorted" = true) (h2 : blt T sc "set" = true) (ha : Snd T fn W cls X a l) (hl : plE l = true) :
    Snd T fn W cls X (.sset a) (.Call (.Name "sorted" p) [.Call (.Name "set" p2) [l] [] q] [] pos) := by
  obtain ⟨g1, g2, g3, g4⟩ := blt_ok C h1
  obtain ⟨k1, k2, k3, k4⟩ := blt_ok C h2
  refine .of (pe_imp (pe_sset C.calm g1 g2 k1 k2 ha.pe (plE_star hl)) fun σ H Q h => ?_) (fun _ => rfl) rfl
  obtain ⟨G, ρ, F, h⟩ := h
  have h : Want W cls X.K .T ((ev fn a ρ).bind fun x => (itemsL x).bind fun xs => (someR (dInts xs)).bind fun is => .guard (decide (is.length < 4095)) (.ok (.lst ((sortU is).map .int)))) G H σ Q := h
  refine seqE F h fun z v H1 G1 _ t1 F1 p1 h3 => ?_
  obtain ⟨u, hu, q1⟩ := want_pure (ne_bind (itemsL_ne z) fun _ => ne_bind (someR_ne _) fun _ => ne_guard ne_ok) h3
  obtain ⟨xs, e1, e2⟩ := bind_okE hu
  obtain ⟨is, e3, e4⟩ := bind_okE e2
  obtain ⟨e5, e6⟩ := guard_ok e4
  cases e6
  have ez : z = .lst xs := by cases z <;> first | (cases e1; rfl) | cases e1
  subst ez
  obtain rfl := dInts_map (someR_ok e3)
  obtain ⟨b, vs, rfl, s1, s2⟩ := p1.toB.lst F1.sub
  obtain rfl := s2.ints
  refine ⟨b, is, rfl, s1, by have := of_decide_eq_true e5; show is.length + 1 < 4096; omega, fun ks p hs hm hp => ?_⟩
  have e : ks = sortU is := rising_uniq hs (sortU_srt is) fun k => by rw [hm, sortU_mem]
  subst e
  exact newT F1.ok (o := .lst _) trivial q1 (.lst (RpL.ofInts _)) p hp
theorem snd_lrev (C : Ctx T fn W cls d sc X) {a : Ex} {l : Expr} {p p2 q pos : Pos} (h1 : blt T sc "list" = true) (h2 : blt T sc "reversed" = true) (ha : Snd T fn W cls X a l) (hl : plE l = true) :
    Snd T fn W cls X (.lrev a) (.Call (.Name "list" p) [.Call (.Name "reversed" p2) [l] [] q] [] pos) := by
  obtain ⟨g1, g2, g3, g4⟩ := blt_ok C h1
  obtain ⟨k1, k2, k3, k4⟩ := blt_ok C h2
  refine .of (pe_imp (pe_lrev C.calm g1 g2 k1 k2 ha.pe (plE_star hl)) fun σ H Q h => ?_) (fun _ => rfl) rfl
  obtain ⟨G, ρ, F, h⟩ := h
  have h : Want W cls X.K .T ((ev fn a ρ).bind fun x => (itemsL x).bind fun xs => .ok (.lst xs.reverse)) G H σ Q := h
  refine seqE F h fun z v H1 G1 _ t1 F1 p1 h3 => ?_
  obtain ⟨u, hu, q1⟩ := want_pure (ne_bind (itemsL_ne z) fun _ => ne_ok) h3
  obtain ⟨xs, e1, e2⟩ := bind_okE hu
  cases e2
  have ez : z = .lst xs := by cases z <;> first | (cases e1; rfl) | cases e1
  subst ez
  obtain ⟨b, vs, rfl, s1, s2⟩ := p1.toB.lst F1.sub
  exact ⟨b, vs, rfl, s1, newT F1.ok (o := .lst _) trivial q1 (.lst s2.reverse)⟩
theorem rpl_rg {K : PySem.W.Frag} {G : Hp} (i j : Int) : RpL K G (rgV i j) (upto i (j - i).toNat) := by
  have aux : ∀ (n k : Nat), RpL K G ((List.range' k n).map fun t => V.int (i + (t : Nat))) (upto (i + k) n) := by
    intro n
    induction n with
    | zero => intro k; exact .nil
    | succ n ih =>
      intro k
      rw [List.range'_succ, List.map_cons, upto]
      refine .cons (.int _) ?_
      have := ih (k + 1)
      rw [show (i + ((k + 1 : Nat) : Int)) = i + (k : Int) + 1 by omega] at this
      exact this
  have := aux (j - i).toNat 0
  rw [← List.range_eq_range'] at this
  simpa [rgV] using this
theorem snd_lrng (C : Ctx T fn W cls d sc X) {a b : Ex} {l m : Expr} {p p2 q pos : Pos} (h1 : blt T sc "list" = true) (h2 : blt T sc "range" = true) (ha : Snd T fn W cls X a l) (hl : plE l = true) (hb : Snd T fn W cls X b m) (hm : plE m = true) :
    Snd T fn W cls X (.lrng a b) (.Call (.Name "list" p) [.Call (.Name "range" p2) [l, m] [] q] [] pos) := by
  obtain ⟨g1, g2, g3, g4⟩ := blt_ok C h1
  obtain ⟨k1, k2, k3, k4⟩ := blt_ok C h2
  refine .of (pe_imp (pe_listRg C.calm g1 g2 (prg_2 k1 k2 ha.pe hb.pe (plE_star hl) (plE_star hm) (any_back fun e he => by simp at he; rw [he]; exact hm))) fun σ H Q h => ?_) (fun _ => rfl) rfl
  obtain ⟨G, ρ, F, h⟩ := h
  have h : Want W cls X.K .T ((ev fn a ρ).bind fun x => (ev fn b ρ).bind fun y => (asInt x).bind fun i => (asInt y).bind fun j => .guard (small62 i && small62 j && decide ((j - i).toNat ≤ Line)) (.ok (.lst (upto i (j - i).toNat)))) G H σ Q := h
  refine seqE F h fun z v H1 G1 _ t1 F1 p1 h3 => ?_
  refine seqE F1 h3 fun z2 v2 H2 G2 _ t2 F2 p2 h4 => ?_
  obtain ⟨i, e5, h5⟩ := want_int h4
  obtain ⟨j, e6, h6⟩ := want_int h5
  subst e5 e6
  obtain ⟨u, hu, q1⟩ := want_pure (ne_guard ne_ok) h6
  obtain ⟨e7, e8⟩ := guard_ok hu
  cases e8
  unfold small62 at e7
  simp only [Bool.and_eq_true, decide_eq_true_eq] at e7
  refine ⟨i, j, p1.int, p2.int, ⟨e7.1.1.1, e7.1.1.2, e7.1.2.1, e7.1.2.2, e7.2⟩, newT F2.ok (o := .lst _) trivial q1 (.lst (rpl_rg i j))⟩
theorem zip4_get : ∀ {xs ys zs ws : List D} {i : Nat}, ys.length = xs.length → zs.length = xs.length → ws.length = xs.length → i < xs.length →
    ∃ x y z w, xs[i]? = some x ∧ ys[i]? = some y ∧ zs[i]? = some z ∧ ws[i]? = some w ∧ (zip4L xs ys zs ws)[i]? = some (.tup [x, y, z, w])
  | x :: xs, y :: ys, z :: zs, w :: ws, 0, _, _, _, _ => ⟨x, y, z, w, rfl, rfl, rfl, rfl, rfl⟩
  | x :: xs, y :: ys, z :: zs, w :: ws, i + 1, h1, h2, h3, h4 => by
    simp only [List.length_cons, Nat.add_right_cancel_iff] at h1 h2 h3 h4
    obtain ⟨a, b, c, d, k1, k2, k3, k4, k5⟩ := zip4_get h1 h2 h3 (Nat.lt_of_succ_lt_succ h4)
    exact ⟨a, b, c, d, by simpa using k1, by simpa using k2, by simpa using k3, by simpa using k4, by rw [zip4L]; simpa using k5⟩
  | [], _, _, _, _, _, _, _, h => by simp at h
  | _ :: _, [], _, _, _, h, _, _, _ => by simp at h
  | _ :: _, _ :: _, [], _, _, _, h, _, _ => by simp at h
  | _ :: _, _ :: _, _ :: _, [], _, _, _, h, _ => by simp at h
theorem zip4_len : ∀ {xs ys zs ws : List D}, ys.length = xs.length → zs.length = xs.length → ws.length = xs.length → (zip4L xs ys zs ws).length = xs.length
  | [], _, _, _, _, _, _ => by simp [zip4L]
  | x :: xs, y :: ys, z :: zs, w :: ws, h1, h2, h3 => by
    simp only [List.length_cons, Nat.add_right_cancel_iff] at h1 h2 h3
    rw [zip4L, List.length_cons, List.length_cons, zip4_len h1 h2 h3]
  | _ :: _, [], _, _, h, _, _ => by simp at h
  | _ :: _, _ :: _, [], _, _, h, _ => by simp at h
  | _ :: _, _ :: _, _ :: _, [], _, _, h => by simp at h
theorem Stp.updO {G H G1 H1 : Hp} {a : Addr} {o : HO} (t : Stp G H G1 H1) (hn : H a = none) (hg : G1 a = none) (w : Owb o) : Stp G H G1 (L2.upd H1 a o) := by
  refine ⟨fun b x e => ?_, t.g, ⟨fun b x e => ?_, fun b x e n => ?_⟩, fun b x e n => t.k b x e n⟩
  · rw [upd_ne (ne_of_none e hn)]; exact t.h _ _ e
  · rw [upd_ne (ne_of_none e hg)]; exact t.o.s _ _ e
  · by_cases hb : b = a
    · subst hb; rw [upd_same] at e; cases e; exact w
    · rw [upd_ne hb] at e; exact t.o.z _ _ e n
theorem snd_lzip (C : Ctx T fn W cls d sc X) {es : Exs} {l1 l2 l3 l4 : Expr} {p p2 q pos : Pos} (h1 : blt T sc "list" = true) (h2 : blt T sc "zip" = true) (ha : PA X [l1, l2, l3, l4] (tL T fn W cls X.K false es)) (hp : ∀ e ∈ [l1, l2, l3, l4], plE e = true) :
    Snd T fn W cls X (.lzip es) (.Call (.Name "list" p) [.Call (.Name "zip" p2) [l1, l2, l3, l4] [] q] [] pos) := by
  obtain ⟨g1, g2, g3, g4⟩ := blt_ok C h1
  obtain ⟨k1, k2, k3, k4⟩ := blt_ok C h2
  refine .of (pe_imp (pe_lz4 C.calm g1 g2 k1 k2 ha (plE_star (hp l1 (by simp))) (any_back fun e he => hp e (List.mem_cons_of_mem _ he))) fun σ H Q h => ?_) (fun _ => rfl) rfl
  obtain ⟨G, ρ, F, h⟩ := h
  have h : Want W cls X.K .T ((evs fn es ρ).bind fun ds => zip4D ds) G H σ Q := h
  refine seqL F h fun zs vs H1 G1 e t1 F1 p1 h3 => ?_
  have p1 : PBL X.K G1 H1 vs zs := p1
  have ne : ∀ c, zip4D zs ≠ .exc c := by unfold zip4D; split <;> first | exact ne_guard ne_ok | exact ne_bad
  obtain ⟨u, hu, q1⟩ := want_pure ne h3
  match zs, hu, p1 with
  | [.lst x1, .lst x2, .lst x3, .lst x4], hu, .cons (v := v1) a1 (.cons (v := v2) a2 (.cons (v := v3) a3 (.cons (v := v4) a4 .nil))) =>
    obtain ⟨e5, e6⟩ := guard_ok hu
    cases e6
    simp only [Bool.and_eq_true, decide_eq_true_eq] at e5
    obtain ⟨⟨n2, n3⟩, n4⟩ := e5
    obtain ⟨b1, w1, rfl, s1, r1⟩ := a1.lst F1.sub
    obtain ⟨b2, w2, rfl, s2, r2⟩ := a2.lst F1.sub
    obtain ⟨b3, w3, rfl, s3, r3⟩ := a3.lst F1.sub
    obtain ⟨b4, w4, rfl, s4, r4⟩ := a4.lst F1.sub
    have m1 := r1.len
    have m2 := r2.len
    have m3 := r3.len
    have m4 := r4.len
    refine ⟨b1, b2, b3, b4, w1, w2, w3, w4, rfl, s1, s2, s3, s4, by omega, by omega, by omega, fun S hS => ?_⟩
    have zl := zip4_len n2 n3 n4
    refine ⟨fun i acc H' => ∃ G', Stp G1 H1 G' H' ∧ G' S = none ∧ H' S = some (.lst acc) ∧ RpL X.K G' acc ((zip4L x1 x2 x3 x4).take i), ⟨G1, Stp.newO F1.ok hS trivial, F1.sub.free hS, upd_same, .nil⟩, fun i acc H' o hi hy hP => ?_, fun acc H' hP => ?_⟩
    · obtain ⟨G', t, gS, hS', r⟩ := hP
      have al : acc.length = i := by
        rw [r.len, List.length_take, zl]
        omega
      refine ⟨hS', al, fun T' hT => ?_⟩
      obtain ⟨x, y, z, w, f1, f2, f3, f4, rfl⟩ := hy
      obtain ⟨c1, c2, c3, c4, j1, j2, j3, j4, j5⟩ := zip4_get n2 n3 n4 (show i < x1.length by omega)
      obtain ⟨y1, e1, rr1⟩ := r1.get j1
      obtain ⟨y2, e2, rr2⟩ := r2.get j2
      obtain ⟨y3, e3, rr3⟩ := r3.get j3
      obtain ⟨y4, e4, rr4⟩ := r4.get j4
      rw [f1] at e1
      rw [f2] at e2
      rw [f3] at e3
      rw [f4] at e4
      cases e1
      cases e2
      cases e3
      cases e4
      have sne : S ≠ T' := ne_of_none hS' hT
      have t2 : Stp G1 H1 (L2.upd G' T' (.tup [x, y, z, w])) (L2.upd H' T' (.tup [x, y, z, w])) := t.trans (Stp.newS t.o hT)
      have gT : G' T' = none := t.s.free hT
      have gS2 : L2.upd G' T' (.tup [x, y, z, w]) S = none := by rw [upd_ne sne]; exact gS
      have sg := same_upd (o := .tup [x, y, z, w]) gT
      refine ⟨_, t2.updO hS gS2 trivial, gS2, upd_same, ?_⟩
      rw [List.take_add_one, j5]
      refine (r.mono sg).append (.cons (.tup (SqT.of upd_same) ?_) .nil)
      have s := t.g.trans sg
      exact .cons (rr1.mono s) (.cons (rr2.mono s) (.cons (rr3.mono s) (.cons (rr4.mono s) .nil)))
    · obtain ⟨G', t, gS, hS', r⟩ := hP
      rw [m1, ← zl, List.take_length] at r
      exact q1 _ _ _ t ⟨S, _, rfl, hS, hS', gS, .lst r⟩
/-! ### the least or None, two lists, a call without arguments -/
theorem snd_dmin (C : Ctx T fn W cls d sc X) {mx : Bool} {a : Ex} {l : Expr} {j : Nat} {p p3 p4 pos : Pos} (h1 : blt T sc (if mx then "max" else "min") = true) (ha : Snd T fn W cls X a l) (hl : plE l = true) :
    Snd T fn W cls X (.dmin mx a) (.Call (.Name (if mx then "max" else "min") p) [l] [⟨some "default", .Constant .none j p3, p4⟩] pos) := by
  obtain ⟨g1, g2, g3, g4⟩ := blt_ok C h1
  have hb : bootBuiltins (if mx then "max" else "min") = some (.builtin (if mx then "max" else "min")) := by cases mx <;> decide +kernel
  refine .of (pe_imp (pe_callBK (cr_dm C.calm C.un mx) g1 g2 hb (pa_cons ha.pe pa_nil (plE_star hl)) (pk_cons pe_non pk_nil) g3 g4 (by rw [plE_star hl]; rfl) (any_back fun e he => by simp at he; rw [he]; exact hl)) fun σ H Q h => ?_) (fun _ => rfl) rfl
  obtain ⟨G, ρ, F, h⟩ := h
  have h : Want W cls X.K .S ((ev fn a ρ).bind fun x => (itemsL x).bind fun xs => (someR (dInts xs)).bind fun is => .ok (dmD mx is)) G H σ Q := h
  refine seqE F h fun z v H1 G1 _ t1 F1 p1 h3 => ?_
  obtain ⟨u, hu, q1⟩ := want_pure (ne_bind (itemsL_ne z) fun _ => ne_bind (someR_ne _) fun _ => ne_ok) h3
  obtain ⟨xs, e1, e2⟩ := bind_okE hu
  obtain ⟨is, e3, e4⟩ := bind_okE e2
  cases e4
  have ez : z = .lst xs := by cases z <;> first | (cases e1; rfl) | cases e1
  subst ez
  obtain rfl := dInts_map (someR_ok e3)
  obtain ⟨b, vs, rfl, s1, s2⟩ := p1.toB.lst F1.sub
  obtain rfl := s2.ints
  refine ⟨b, is, rfl, rfl, s1, q1 _ _ _ (Stp.refl F1.ok) ?_⟩
  cases is with
  | nil => exact Rp.non
  | cons m r => exact Rp.int _
theorem catD_ne (x y : D) : ∀ c, catD x y ≠ .exc c := by
  unfold catD
  split <;> first | exact ne_guard ne_ok | exact ne_bad
theorem snd_cat (C : Ctx T fn W cls d sc X) {a b : Ex} {l r : Expr} {p : Pos} (ha : Snd T fn W cls X a l) (hb : Snd T fn W cls X b r) : Snd T fn W cls X (.cat a b) (.BinOp l .Add r p) := by
  refine .of (pe_imp (pe_op op_catL ha.pe hb.pe) fun σ H Q h => ?_) (fun _ => rfl) rfl
  obtain ⟨G, ρ, F, h⟩ := h
  have h : Want W cls X.K .T ((ev fn a ρ).bind fun x => (ev fn b ρ).bind fun y => catD x y) G H σ Q := h
  refine seqE F h fun z1 v1 H1 G1 _ t1 F1 p1 h1 => ?_
  refine seqE F1 h1 fun z2 v2 H2 G2 _ t2 F2 p2 h2 => ?_
  obtain ⟨z, hz, q⟩ := want_pure (catD_ne z1 z2) h2
  have p1 := p1.toB.step t2
  have p2 := p2.toB
  match z1, z2, hz, p1, p2 with
  | .lst xs, .lst ys, hz, p1, p2 =>
    obtain ⟨g1, g2⟩ := guard_ok hz
    cases g2
    obtain ⟨a1, us, rfl, s1, r1⟩ := p1.lst F2.sub
    obtain ⟨a2, ws, rfl, s2, r2⟩ := p2.lst F2.sub
    refine ⟨a1, a2, us, ws, rfl, rfl, s1, s2, ?_, newT F2.ok (o := .lst _) trivial q (.lst (r1.append r2))⟩
    rw [sizeLn, r1.len, r2.len]; exact of_decide_eq_true g1
theorem snd_call0 (C : Ctx T fn W cls d sc X) {f : Nat} {x : Str} {fr : Bool} {p p2 : Pos} (hf : T.fns.lookup f = some (x, 0, fr)) (h1 : glB sc x = true) (h2 : nmB x = true) : Snd T fn W cls X (.call0 f) (.Call (.Name x p) [] [] p2) := by
  obtain ⟨n1, n2, n3⟩ := nmB_ok h2
  obtain ⟨fa, fd, ps, k, hF, hr, hm, hk, hb⟩ := (C.fns f x 0 fr hf).ex
  refine .of (pe_imp (pe_call0S hF hr (glB_ok h1 C.hs) hm hk hb (fun σ => passAt C.tk σ) n1) fun σ H Q h => ?_) (fun _ => rfl) rfl
  obtain ⟨G, ρ, F, h⟩ := h
  have ek : kd T (.call0 f) = if fr then .T else .S := by
    show (match T.fns.lookup f with | some (_, _, true) => Kd.T | _ => Kd.S) = _
    rw [hf]
    cases fr <;> rfl
  rw [ek] at h
  have h : Want W cls X.K (if fr then .T else .S) (fn f []) G H σ Q := h
  refine ⟨rfl, G, [], F.ok, .nil, ?_⟩
  cases e2 : fn f [] with
  | ok z => rw [e2] at h; exact h
  | exc c => rw [e2] at h; exact h
  | bad => rw [e2] at h; exact h
end
end Den
namespace Den
open PySem PySem.Spec PyProof.Rows L2
/-! ### dicts: new ones, d.get, d.items() -/
/-- what stands behind an expression is locked from here on -/
def tKeep (t : TE) : TE := fun σ H Q => t σ H fun v H1 => ∃ a u, v = .ref a ∧ H1 a = some u ∧ Mut (some u) ∧ ∀ od, Q v (upd H1 a (.frz od u))
theorem pe_keep {X : Cx} {e : Expr} {t : TE} (h : PE X e t) : PE X e (tKeep t) := by
  refine ⟨fun pins s σ H Q I hw => ?_⟩
  refine thn (h.run pins s σ _ _ I hw) fun v s1 ⟨x, H1, I2, r, a, u, ex, e2, mu, q⟩ => ?_
  subst ex
  obtain ⟨od, I3⟩ := I2.lock e2 mu
  exact ⟨_, _, I3, r, q od⟩
/-- a new object that was own: shared and locked -/
theorem Stp.keep {G H G1 H1 : Hp} {a : Addr} {o : HO} (t : Stp G H G1 H1) (hn : H a = none) (hg : G1 a = none) : Stp G H (L2.upd G1 a o) (L2.upd H1 a o) := by
  refine ⟨fun b x e => ?_, t.g.trans (same_upd hg), ⟨fun b x e => ?_, fun b x e n => ?_⟩, fun b x e n => ?_⟩
  · rw [upd_ne (ne_of_none e hn)]; exact t.h _ _ e
  · by_cases hb : b = a
    · subst hb; rw [upd_same] at e ⊢; exact e
    · rw [upd_ne hb] at e ⊢; exact t.s _ _ e
  · by_cases hb : b = a
    · subst hb; rw [upd_same] at n; cases n
    · rw [upd_ne hb] at e n; exact t.o.z _ _ e n
  · rw [upd_ne (ne_of_none e hn)]; exact t.k _ _ e n
theorem kD_rp1 {K : PySem.W.Frag} {G : Hp} (k : Key) : Rp K G (kV k) (kD k) := by
  cases k with
  | inl i => exact .int i
  | inr i => exact .str i
section
variable {T : Tbl} {fn : Nat → List D → R D} {W : WX} {cls : Nat → Value} {d : Bool} {sc : Scope} {X : Cx}
theorem snd_dnew (C : Ctx T fn W cls d sc X) {t : Bool} {p : Pos} : Snd T fn W cls X (.dnew t) (.Dict [] [] p) := by
  cases t with
  | true =>
    refine .of (pe_imp pe_dnewT fun σ H Q h => ?_) (fun _ => rfl) rfl
    obtain ⟨G, ρ, F, h⟩ := h
    exact newT F.ok (o := .dT []) trivial (fun v H' G' t r => h v H' G' t r) (.dcT (kvs := []) .nil)
  | false =>
    refine .of (pe_imp pe_dnewK fun σ H Q h => ?_) (fun _ => rfl) rfl
    obtain ⟨G, ρ, F, h⟩ := h
    exact newT F.ok (o := .dK []) trivial (fun v H' G' t r => h v H' G' t r) (.dct (kvs := []) .nil)
theorem snd_dlit (C : Ctx T fn W cls d sc X) {k v : Ex} {l r : Expr} {p : Pos} (hk : Snd T fn W cls X k l) (hv : Snd T fn W cls X v r) (nv : nB T v = true) : Snd T fn W cls X (.dlit k v) (.Dict [some l] [r] p) := by
  refine .of (pe_imp (pe_keep (pe_disp (pps_cons hk.pe hv.pe pps_nil) rfl rfl (by simp) (by simp))) fun σ H Q h => ?_) (fun _ => rfl) rfl
  obtain ⟨G, ρ, F, h⟩ := h
  intro a ha
  have t0 : Stp G H G (L2.upd H a (.dK [])) := Stp.newO F.ok ha trivial
  have hga : G a = none := F.ok.s.free ha
  refine seqE (F.step t0) (Want.shift t0 (show Want W cls X.K .S ((ev fn k ρ).bind fun x => (ev fn v ρ).bind fun y => dlD x y) G H σ Q from h)) fun z1 v1 H1 G1 k1 t1 F1 p1 h1 => ?_
  refine seqE F1 h1 fun z2 v2 H2 G2 k2 t2 F2 p2 h2 => ?_
  obtain ⟨z, hz, q⟩ := want_pure (dlD_ne z1 z2) h2
  unfold dlD at hz
  split at hz
  · rename_i kk hkk
    cases hz
    obtain ⟨G3, t3, r3⟩ := p2.toS (nB_ne nv) t2
    have t4 := (t0.trans t1).trans t3
    have e1 : v1 = kV kk := p1.toB.key hkk
    subst e1
    have hh : H2 a = some (.dK []) := t3.h _ _ (t1.h _ _ upd_same)
    have hg3 : G3 a = none := t3.k _ _ (t1.h _ _ upd_same) (t1.k _ _ upd_same hga)
    refine ⟨hh, [(kk, v2)], rfl, by simp, a, .dK [(kk, v2)], rfl, upd_same, trivial, fun od => ?_⟩
    rw [upd_upd]
    have h' : Want W cls X.K .S ((ev fn k ρ).bind fun x => (ev fn v ρ).bind fun y => dlD x y) G H σ Q := h
    rw [k1, R.bind_ok, k2, R.bind_ok] at h'
    unfold dlD at h'
    rw [hkk] at h'
    exact h' _ _ _ (t4.keep ha hg3) (.dctL (kvs := [(kk, v2)]) upd_same (.cons (r3.mono (same_upd hg3)) .nil))
  · cases hz
theorem see_ok (C : Ctx T fn W cls d sc X) {i : Nat} {x : Str} {p : Pos} (h : seeB T sc i x = true) : Snd T fn W cls X (.var i) (.Name x p) := by
  unfold seeB at h
  rw [Bool.and_eq_true, Bool.and_eq_true, decide_eq_true_eq] at h
  exact snd_var C h.1.1 h.1.2 h.2
theorem want_dct {k : Kd} {f : D → R D} {G H : Hp} {σ : L2.St} {Q : VK} {z : D} (h : Want W cls X.K k ((asDct z).bind f) G H σ Q) : ∃ b ks ds, z = .dct b ks ds ∧ Want W cls X.K k (f (.dct b ks ds)) G H σ Q := by
  cases z with
  | dct b ks ds => exact ⟨b, ks, ds, rfl, h⟩
  | _ => exact h.elim
theorem isD_of {G H : Hp} {v : V} {f : Bool} {ks : List Key} {ds : List D} (s : Same G H) (p : PB X.K G H v (.dct f ks ds)) : ∃ a, v = .ref a ∧ IsD H a := by
  obtain ⟨a, kvs, rfl, h1, _, _⟩ := p.dct s
  exact ⟨a, rfl, .inl ⟨kvs, h1⟩⟩
theorem dgD_ok {G H : Hp} {x y w : V} {f : Bool} {ks : List Key} {ds : List D} {b c z : D} (s : Same G H) (px : PB X.K G H x (.dct f ks ds)) (py : PB X.K G H y b) (pw : Rp X.K G w c) (h : dgD (.dct f ks ds) b c = .ok z) :
    ∃ a o, x = .ref a ∧ DGet H a y o ∧ Rp X.K G (o.getD w) z := by
  unfold dgD at h
  simp only at h
  split at h
  · rename_i k hk
    cases h
    obtain ⟨a, o, rfl, g, i1, i2⟩ := dget_of s px py hk
    refine ⟨a, o, rfl, g, ?_⟩
    cases e : lkD ks ds k with
    | none => rw [i2 e]; exact pw
    | some q => obtain ⟨v, rfl, r⟩ := i1 q e; exact r
  · cases h
theorem m1_of {x : Str} {p ap cp : Pos} {m : Str} {l : Expr} (hl : plE l = true) (he : (ap.endLine == cp.line) = true) : M1 X (.Name x p) m ap l cp := by
  refine ⟨rfl, ?_, he, ?_⟩
  · rw [plE_star hl]; rfl
  · rw [plE_star hl]; rfl
theorem m2_of {x : Str} {p ap cp : Pos} {m : Str} {l r : Expr} (hl : plE l = true) (hr : plE r = true) (he : (ap.endLine == cp.line) = true) : M2 X (.Name x p) m ap l r cp := by
  refine ⟨rfl, ?_, he, ?_⟩
  · rw [plE_star hl, plE_star hr]; rfl
  · rw [plE_star hl, plE_star hr]; rfl
theorem snd_dget1 (C : Ctx T fn W cls d sc X) {i : Nat} {k : Ex} {x : Str} {l : Expr} {p ap cp : Pos} (h1 : seeB T sc i x = true) (h2 : (ap.endLine == cp.line) = true) (hk : Snd T fn W cls X k l) (hl : plE l = true) :
    Snd T fn W cls X (.dget1 i k) (.Call (.Attribute (.Name x p) "get" ap) [l] [] cp) := by
  have hu := C.un
  refine .of (pe_imp (pe_dget1 (by omega) (see_ok C h1).pe hk.pe (m1_of hl h2)) fun σ H Q h => ?_) (fun _ => rfl) rfl
  obtain ⟨G, ρ, F, h⟩ := h
  refine seqE F (show Want W cls X.K .S ((ev fn (.var i) ρ).bind fun x => (asDct x).bind fun x => (ev fn k ρ).bind fun y => dgD x y .non) G H σ Q from h) fun z1 v1 H1 G1 k1 t1 F1 p1 h1 => ?_
  obtain ⟨f, ks, ds, rfl, h1⟩ := want_dct h1
  obtain ⟨a, rfl, hd⟩ := isD_of F1.sub p1.toB
  refine ⟨a, rfl, hd, ?_⟩
  refine seqE F1 h1 fun z2 v2 H2 G2 k2 t2 F2 p2 h2 => ?_
  obtain ⟨z, hz, q⟩ := want_pure (dgD_ne _ _ _) h2
  obtain ⟨a', o, e, g, r⟩ := dgD_ok (w := .non) F2.sub (p1.toB.step t2) p2.toB .non hz
  cases e
  exact ⟨o, g, q _ _ _ (Stp.refl F2.ok) r⟩
theorem snd_dget2 (C : Ctx T fn W cls d sc X) {i : Nat} {k w : Ex} {x : Str} {l r : Expr} {p ap cp : Pos} (h1 : seeB T sc i x = true) (h2 : (ap.endLine == cp.line) = true) (hk : Snd T fn W cls X k l) (hl : plE l = true)
    (hw : Snd T fn W cls X w r) (hr : plE r = true) (nw : nB T w = true) : Snd T fn W cls X (.dget2 i k w) (.Call (.Attribute (.Name x p) "get" ap) [l, r] [] cp) := by
  have hu := C.un
  refine .of (pe_imp (pe_dget2 (by omega) (see_ok C h1).pe hk.pe hw.pe (m2_of hl hr h2)) fun σ H Q h => ?_) (fun _ => rfl) rfl
  obtain ⟨G, ρ, F, h⟩ := h
  refine seqE F (show Want W cls X.K .S ((ev fn (.var i) ρ).bind fun x => (asDct x).bind fun x => (ev fn k ρ).bind fun y => (ev fn w ρ).bind fun w => dgD x y w) G H σ Q from h) fun z1 v1 H1 G1 k1 t1 F1 p1 h1 => ?_
  obtain ⟨f, ks, ds, rfl, h1⟩ := want_dct h1
  obtain ⟨a, rfl, hd⟩ := isD_of F1.sub p1.toB
  refine ⟨a, rfl, hd, ?_⟩
  refine seqE F1 h1 fun z2 v2 H2 G2 k2 t2 F2 p2 h2 => ?_
  refine seqE F2 h2 fun z3 v3 H3 G3 k3 t3 F3 p3 h3 => ?_
  obtain ⟨z, hz, q⟩ := want_pure (dgD_ne _ _ _) h3
  obtain ⟨G4, t4, r4⟩ := p3.toS (nB_ne nw) t3
  obtain ⟨a', o, e, g, r⟩ := dgD_ok (G := G4) t4.s ((p1.toB.step t2).step t4) (p2.toB.step t4) r4 hz
  cases e
  have q' : Q (o.getD v3) H3 := by
    have h' : Want W cls X.K .S ((ev fn (.var i) ρ).bind fun x => (asDct x).bind fun x => (ev fn k ρ).bind fun y => (ev fn w ρ).bind fun w => dgD x y w) G H σ Q := h
    rw [k1, R.bind_ok] at h'
    have h' : Want W cls X.K .S ((ev fn k ρ).bind fun y => (ev fn w ρ).bind fun w => dgD (.dct f ks ds) y w) G H σ Q := h'
    rw [k2, R.bind_ok, k3, R.bind_ok, hz] at h'
    exact h' _ _ _ ((t1.trans t2).trans t4) r
  exact ⟨o, g, q'⟩
theorem pairL_get : ∀ {ks : List Key} {ds : List D} {i : Nat} {z : D}, (pairL ks ds)[i]? = some z → ∃ k x, ks[i]? = some k ∧ ds[i]? = some x ∧ z = .tup [kD k, x]
  | [], _, i, z, h => by simp [pairL] at h
  | _ :: _, [], i, z, h => by simp [pairL] at h
  | k :: ks, x :: ds, 0, z, h => by
    simp only [pairL, List.getElem?_cons_zero, Option.some.injEq] at h
    exact ⟨k, x, rfl, rfl, h.symm⟩
  | k :: ks, x :: ds, i + 1, z, h => by
    simp only [pairL, List.getElem?_cons_succ] at h
    obtain ⟨e, f, h1, h2, h3⟩ := pairL_get h
    exact ⟨e, f, by simpa using h1, by simpa using h2, h3⟩
theorem pairL_len : ∀ {ks : List Key} {ds : List D}, ks.length = ds.length → (pairL ks ds).length = ks.length
  | [], [], _ => rfl
  | k :: ks, x :: ds, h => by rw [pairL, List.length_cons, List.length_cons, pairL_len (by simpa using h)]
  | [], _ :: _, h => by simp at h
  | _ :: _, [], h => by simp at h
theorem yields_its {K : PySem.W.Frag} {Kp : Hp → Prop} {G0 : Hp} {a : Addr} {o : Obj} {kvs : List (Key × V)} {ds : List D} (e : G0 a = some (.frz o (.dK kvs))) (l : RpL K G0 (kvs.map (·.2)) ds) :
    Yields K Kp (Iti a o kvs) (pairL (kvs.map (·.1)) ds) G0 := by
  intro G H sg ok hk
  have hH : H a = some (.frz o (.dK kvs)) := ok.s _ _ (sg _ _ e)
  have hn : (pairL (kvs.map (·.1)) ds).length = kvs.length := by
    rw [pairL_len (by rw [← l.len]; simp)]; simp
  refine ⟨fun i z hz => ?_, hH, by rw [hn]; exact Nat.le_refl _⟩
  obtain ⟨k, x, h1, h2, rfl⟩ := pairL_get hz
  refine ⟨⟨hH, ?_⟩, fun x' H' y => ?_⟩
  · have := (List.getElem?_eq_some_iff.mp hz).1
    rw [hn] at this
    exact this
  · obtain ⟨q, k', v, e1, rfl, hq, rfl⟩ := y
    rw [List.getElem?_map, e1] at h1
    cases h1
    obtain ⟨v', e2, r⟩ := l.get h2
    rw [List.getElem?_map, e1] at e2
    cases e2
    exact ⟨_, Stp.newS ok hq, .tup (SqT.of upd_same) (.cons (kD_rp1 _) (.cons ((r.mono sg).mono (same_upd (ok.s.free hq))) .nil))⟩
theorem pi_its (C : Ctx T fn W cls d sc X) {i : Nat} {x : Str} {es : List Expr} {kk : Nat} {tp p ap cp : Pos} (h1 : seeB T sc i x = true) (h2 : (ap.endLine == cp.line) = true) (ho : (!T.isOwn i) = true) :
    PI X (.Tuple es kk tp) (.Call (.Attribute (.Name x p) "items" ap) [] [] cp) (tIt T fn W cls X.K (.its i)) := by
  have ho : T.isOwn i = false := by cases q : T.isOwn i <;> simp_all
  refine pi_imp (pi_items (see_ok C h1).pe rfl h2) fun σ H R h => ?_
  obtain ⟨G, ρ, F, h⟩ := h
  refine wantI_seq F (show WantI W cls X.K (nBI T (.its i)) ((ev fn (.var i) ρ).bind itemsD) G H σ R from h) fun z v H1 G1 k1 t1 F1 p1 h1 => ?_
  obtain ⟨zs, hz, q⟩ := wantI_ok (itemsD_ne z) h1
  have hk : kd T (.var i) = .S := by show (if T.isOwn i then Kd.B else Kd.S) = _; rw [ho]; rfl
  rw [hk] at p1
  have p1 : Rp X.K G1 v z := p1
  unfold itemsD at hz
  split at hz
  · cases hz
    cases p1 with
    | dctL e l => exact ⟨_, _, _, rfl, F1.ok.s _ _ e, q _ _ _ (Stp.refl F1.ok) (yields_its e l)⟩
  · cases hz
/-- a list display so many times: the display first, then the new list -/
theorem RpL.times {K : PySem.W.Frag} {G : Hp} {xs : List V} {ds : List D} (h : RpL K G xs ds) : ∀ n : Nat, RpL K G (List.replicate n xs).flatten (List.replicate n ds).flatten
  | 0 => .nil
  | n + 1 => by
    rw [List.replicate_succ, List.replicate_succ, List.flatten_cons, List.flatten_cons]
    exact h.append (h.times n)
theorem snd_repL (C : Ctx T fn W cls d sc X) {es : Exs} {n : Nat} {l : List Expr} {p p2 p3 : Pos} {j} (ha : PA X l (tL T fn W cls X.K true es)) (hl : l.length ≤ Line) (hlen : ∀ ρ zs, evs fn es ρ = .ok zs → zs.length = l.length) : Snd T fn W cls X (.repL es n) (.BinOp (.List l p) .Mult (.Constant (.int (n : Int)) j p2) p3) := by
  refine .of (pe_imp (pe_op op_rep (pe_lst ha) pe_int) fun σ H Q h => ?_) (fun _ => rfl) rfl
  obtain ⟨G, ρ, F, h⟩ := h
  refine seqL F h fun zs vs H1 G1 e t1 F1 p1 h1 => ?_
  have p1 : RpL X.K G1 vs zs := p1
  have hz := hlen ρ zs e
  have hv := p1.len
  obtain ⟨z, gz, q⟩ := want_pure (ne_guard ne_ok) h1
  obtain ⟨g1, g2⟩ := guard_ok gz
  cases g2
  obtain ⟨k1, k2⟩ := of_decide_eq_true g1
  refine ⟨by rw [hv, hz, sizeLn]; exact hl, fun a ha => ?_⟩
  have t0 : Stp G1 H1 G1 (L2.upd H1 a (.lst vs)) := Stp.newO F1.ok ha trivial
  refine ⟨a, n, vs, rfl, rfl, upd_same, by omega, by omega, ?_, ?_⟩
  · rw [Int.toNat_natCast, hv, sizeLn]; exact k2
  · rw [Int.toNat_natCast]
    exact newT (F1.step t0).ok (o := .lst _) trivial (fun v H' G' t r => q v H' G' (t0.trans t) (PK.shift (k := .T) t0 r)) (.lst (p1.times n))
end
end Den
namespace Den
open PySem PySem.Spec PyProof.Rows L2
section
variable {T : Tbl} {fn : Nat → List D → R D} {W : WX} {cls : Nat → Value} {d : Bool} {sc : Scope} {X : Cx}
theorem tgIn_ok {own : List Nat} {tg : Tg} (h : tgIn own tg = true) : ∀ i ∈ tgS tg, i ∈ own := by
  cases tg with
  | one i =>
    intro j hj
    have e : j = i := by simpa [tgS] using hj
    rw [e]
    simpa [tgIn] using h
  | many is =>
    intro j hj
    have := List.all_eq_true.mp h j hj
    simpa using this
  | nest is j =>
    intro i hi
    unfold tgIn at h
    rw [Bool.and_eq_true] at h
    rcases List.mem_cons.mp hi with e | hi
    · rw [e]; simpa using h.2
    · have := List.all_eq_true.mp h.1 i hi
      simpa using this
theorem ownP_snd (own : List Nat) : (ownP T own).map (·.2) = own := by
  unfold ownP
  rw [List.map_map]
  have : ((fun x : Str × Nat => x.2) ∘ fun i => (T.N.getD i "", i)) = id := rfl
  rw [this, List.map_id]
theorem comp_imp {it : Itr} {tg : Tg} {own : List Nat} {a : Ex} (hin : tgIn own tg = true) (hown : own.all (fun i => !T.isOwn i) = true) (na : nB T a = true) {σ : L2.St} {H : Hp} {Q : VK} (h : tE T fn W cls X.K (.comp it tg own a) σ H Q) :
    tLc (tIt T fn W cls X.K it) (gT X.K tg) tYes (tE T fn W0 cls X.K a) own σ H Q := by
  have ho : ∀ j ∈ own, T.isOwn j = false := fun j hj => by
    have := List.all_eq_true.mp hown j hj
    cases q : T.isOwn j <;> simp_all
  obtain ⟨G, ρ, F, h⟩ := h
  refine lc_read ho F h fun G1 H1 x z o P F1 r hf hP => ?_
  obtain ⟨ρ', e1, hf⟩ := bind_okE hf
  obtain ⟨w, e2, hf⟩ := bind_okE hf
  cases hf
  refine gT_read (fun j hj => ho j (tgIn_ok hin j hj)) F1 r e1 fun σ2 F2 hw => ?_
  refine ⟨by rw [hw own (tgIn_ok hin), wipe_idem], ?_⟩
  show tE T fn W0 cls X.K a σ2 H1 fun y H4 => P (some y) H4
  refine tE_S na F2 ?_
  rw [e2]
  exact fun v H3 G3 t3 r3 => hP (some v) H3 G3 t3 r3
theorem snd_comp (C : Ctx T fn W cls d sc X) {it : Itr} {tg : Tg} {own : List Nat} {a : Ex} {l g i : Expr} {scope : Scope} {p : Pos} (hi : PI X g i (tIt T fn W cls X.K it)) (pi : plE i = true) (htg : mTg T false (relS scope sc) tg g = true) (hin : tgIn own tg = true)
    (hown : own.all (fun i => !T.isOwn i) = true) (hblk : blkC T.N sc scope (ownP T own) = true) (na : nB T a = true)
    (ha : ∀ (s : Shared) (H : Hp) (c : Addr) (cl : List (Str × Addr)) (fp : List Addr), Snd T fn W0 cls (X.blk s H scope (compEnvC scope cl c X.env) fp) a l) :
    Snd T fn W cls X (.comp it tg own a) (.ListComp l [⟨g, i, [], 0⟩] scope p) := by
  refine .of (pe_imp (pe_lc (own := ownP T own) (g := gT X.K tg) (tt := tYes) (te := tE T fn W0 cls X.K a) C.calm (by rw [C.hN]; exact C.nd) hi (blkOk_by (by rw [C.hN, C.hs]; exact hblk))
    (fun s H c cl fp => (tg_ok (C.blk s H scope c cl fp) htg).1) (fun _ _ _ _ _ => pts_nil) (fun s H c cl fp => (ha s H c cl fp).pe) (plE_set pi)) fun σ H Q h => ?_) (fun _ => rfl) rfl
  rw [ownP_snd]
  exact comp_imp hin hown na h
theorem compIf_imp {it : Itr} {tg : Tg} {own : List Nat} {c a : Ex} (hin : tgIn own tg = true) (hown : own.all (fun i => !T.isOwn i) = true) (na : nB T a = true) {σ : L2.St} {H : Hp} {Q : VK} (h : tE T fn W cls X.K (.compIf it tg own c a) σ H Q) :
    tLc (tIt T fn W cls X.K it) (gT X.K tg) (tT T fn W0 cls X.K c) (tE T fn W0 cls X.K a) own σ H Q := by
  have ho : ∀ j ∈ own, T.isOwn j = false := fun j hj => by
    have := List.all_eq_true.mp hown j hj
    cases q : T.isOwn j <;> simp_all
  obtain ⟨G, ρ, F, h⟩ := h
  refine lc_read ho F h fun G1 H1 x z o P F1 r hf hP => ?_
  obtain ⟨ρ', e1, hf1⟩ := bind_okE hf
  obtain ⟨w, e2, hf2⟩ := bind_okE hf1
  obtain ⟨b, e3, hf3⟩ := bind_okE hf2
  have ew : w = .bl b := by
    cases w with
    | bl k => cases e3; rfl
    | _ => cases e3
  subst ew
  refine gT_read (fun j hj => ho j (tgIn_ok hin j hj)) F1 r e1 fun σ2 F2 hw => ?_
  refine ⟨by rw [hw own (tgIn_ok hin), wipe_idem], ?_⟩
  refine ⟨G1, ρ', F2, ?_⟩
  rw [e2]
  intro H3 G3 t3
  cases b with
  | true =>
    obtain ⟨w2, e4, hf4⟩ := bind_okE (show ((ev fn a ρ').bind fun d => R.ok (some d)) = R.ok o from hf3)
    cases hf4
    show tE T fn W0 cls X.K a σ2 H3 fun y H4 => P (some y) H4
    refine tE_S na (F2.step t3) ?_
    rw [e4]
    exact fun v H4 G4 t4 r4 => hP (some v) H4 G4 (t3.trans t4) r4
  | false =>
    cases (show R.ok none = R.ok o from hf3)
    exact hP none H3 G3 t3 trivial
theorem snd_compIf (C : Ctx T fn W cls d sc X) {it : Itr} {tg : Tg} {own : List Nat} {c a : Ex} {l g i t : Expr} {scope : Scope} {p : Pos} (hi : PI X g i (tIt T fn W cls X.K it)) (pi : plE i = true) (htg : mTg T false (relS scope sc) tg g = true) (hin : tgIn own tg = true)
    (hown : own.all (fun i => !T.isOwn i) = true) (hblk : blkC T.N sc scope (ownP T own) = true) (na : nB T a = true) (nt : ntI t = true)
    (hc : ∀ (s : Shared) (H : Hp) (c' : Addr) (cl : List (Str × Addr)) (fp : List Addr), Snd T fn W0 cls (X.blk s H scope (compEnvC scope cl c' X.env) fp) c t)
    (ha : ∀ (s : Shared) (H : Hp) (c' : Addr) (cl : List (Str × Addr)) (fp : List Addr), Snd T fn W0 cls (X.blk s H scope (compEnvC scope cl c' X.env) fp) a l) :
    Snd T fn W cls X (.compIf it tg own c a) (.ListComp l [⟨g, i, [t], 0⟩] scope p) := by
  refine .of (pe_imp (pe_lc (own := ownP T own) (g := gT X.K tg) (tt := tT T fn W0 cls X.K c) (te := tE T fn W0 cls X.K a) C.calm (by rw [C.hN]; exact C.nd) hi (blkOk_by (by rw [C.hN, C.hs]; exact hblk))
    (fun s H c cl fp => (tg_ok (C.blk s H scope c cl fp) htg).1) (fun s H c' cl fp => pts_one ((hc s H c' cl fp).pt nt)) (fun s H c cl fp => (ha s H c cl fp).pe) (plE_set pi)) fun σ H Q h => ?_) (fun _ => rfl) rfl
  rw [ownP_snd]
  exact compIf_imp hin hown na h

/-! ### THE THEOREM: an expression of the text does what its term says -/
mutual
theorem snd_all : ∀ (x : Ex) {W : WX} {d : Bool} {sc : Scope} {X : Cx} (C : Ctx T fn W cls d sc X) {e : Expr}, mE T x sc e = true → Snd T fn W cls X x e
  | .var i, W, d, sc, X, C, e, h => by
    cases e with
    | Name x p =>
      simp only [mE, Bool.and_eq_true, decide_eq_true_eq] at h
      exact snd_var C h.1.1 h.1.2 h.2
    | _ => cases h
  | .cst z, W, d, sc, X, C, e, h => by
    cases e with
    | Constant c k p =>
      cases z with
      | non =>
        cases c with
        | none => exact snd_cst C pe_non (fun _ => .non) (fun _ => rfl) rfl
        | _ => cases h
      | bl b =>
        cases c with
        | bool k =>
          have e : b = k := of_decide_eq_true h
          subst e
          exact snd_cst C pe_bl (fun _ => .bl b) (fun _ => rfl) rfl
        | _ => cases h
      | int i =>
        cases c with
        | int k =>
          have e : i = k := of_decide_eq_true h
          subst e
          exact snd_cst C pe_int (fun _ => .int i) (fun _ => rfl) rfl
        | _ => cases h
      | str s =>
        cases c with
        | str k =>
          have e : s = k := of_decide_eq_true h
          subst e
          exact snd_cst C pe_str (fun _ => .str s) (fun _ => rfl) rfl
        | _ => cases h
      | _ => cases c <;> cases h
    | _ => cases h
  | .gint y i, W, d, sc, X, C, e, h => by
    cases e with
    | Name x p =>
      simp only [mE, Bool.and_eq_true, decide_eq_true_eq] at h
      obtain ⟨⟨⟨rfl, h2⟩, h3⟩, h4⟩ := h
      exact snd_gint C h2 h3 h4
    | _ => cases h
  | .bin o a b, W, d, sc, X, C, e, h => by
    cases e with
    | BinOp l op r p =>
      simp only [mE, Bool.and_eq_true, decide_eq_true_eq] at h
      obtain ⟨⟨rfl, h2⟩, h3⟩ := h
      exact snd_bin C (snd_all a C h2) (snd_all b C h3)
    | _ => cases h
  | .neg a, W, d, sc, X, C, e, h => by
    cases e with
    | UnaryOp op l p =>
      simp only [mE, Bool.and_eq_true, decide_eq_true_eq] at h
      obtain ⟨rfl, h2⟩ := h
      exact snd_neg C (snd_all a C h2)
    | _ => cases h
  | .cmp o a b, W, d, sc, X, C, e, h => by
    unfold mE at h
    split at h
    · simp only [Bool.and_eq_true, decide_eq_true_eq] at h
      obtain ⟨⟨⟨rfl, h2⟩, h3⟩, h4⟩ := h
      exact snd_cmp C (by simpa using h4) (snd_all a C h2) (snd_all b C h3)
    · cases h
  | .isN a, W, d, sc, X, C, e, h => by
    unfold mE at h
    split at h
    · simp only [Bool.and_eq_true, decide_eq_true_eq] at h
      obtain ⟨rfl, h2⟩ := h
      exact snd_isN C (snd_all a C h2)
    · cases h
  | .notN a, W, d, sc, X, C, e, h => by
    unfold mE at h
    split at h
    · simp only [Bool.and_eq_true, decide_eq_true_eq] at h
      obtain ⟨rfl, h2⟩ := h
      exact snd_notN C (snd_all a C h2)
    · cases h
  | .chain o o' a b c, W, d, sc, X, C, e, h => by
    unfold mE at h
    split at h
    · simp only [Bool.and_eq_true, decide_eq_true_eq] at h
      obtain ⟨⟨⟨⟨⟨rfl, rfl⟩, h2⟩, h3⟩, h4⟩, h5⟩ := h
      exact snd_chain C (by simpa using h5) (snd_all a C h2) (snd_all b C h3) (snd_all c C h4)
    · cases h
  | .and_ a b, W, d, sc, X, C, e, h => by
    unfold mE at h
    split at h
    · rename_i x y r pos
      simp only [Bool.and_eq_true] at h
      obtain ⟨⟨⟨h1, h2⟩, h3⟩, h4⟩ := h
      refine snd_and C (snd_all a C h1) h3 ?_
      cases r with
      | nil => exact .inl ⟨y, snd_all b C h2, rfl, rfl, h4⟩
      | cons z r' => exact .inr ⟨_, snd_all b C h2, rfl⟩
    · cases h
  | .or_ a b, W, d, sc, X, C, e, h => by
    unfold mE at h
    split at h
    · rename_i x y r pos
      simp only [Bool.and_eq_true] at h
      obtain ⟨⟨⟨h1, h2⟩, h3⟩, h4⟩ := h
      refine snd_or C (snd_all a C h1) h3 ?_
      cases r with
      | nil => exact .inl ⟨y, snd_all b C h2, rfl, rfl, h4⟩
      | cons z r' => exact .inr ⟨_, snd_all b C h2, rfl⟩
    · cases h
  | .not_ a, W, d, sc, X, C, e, h => by
    cases e with
    | UnaryOp op l p =>
      simp only [mE, Bool.and_eq_true, decide_eq_true_eq] at h
      obtain ⟨⟨rfl, h2⟩, h3⟩ := h
      exact snd_not C (snd_all a C h2) h3
    | _ => cases h
  | .ite c a b, W, d, sc, X, C, e, h => by
    cases e with
    | IfExp t l r p =>
      simp only [mE, Bool.and_eq_true] at h
      obtain ⟨⟨⟨⟨⟨h1, h2⟩, h3⟩, h4⟩, h5⟩, h6⟩ := h
      exact snd_ite C (snd_all c C h1) h2 (snd_all a C h3) (snd_all b C h4) h5 h6
    | _ => cases h
  | .tup es, W, d, sc, X, C, e, h => by
    cases e with
    | Tuple l k p =>
      simp only [mE, Bool.and_eq_true, decide_eq_true_eq] at h
      exact snd_tup C (snds_all es C h.1) h.2 fun ρ zs e => evs_len h.1 e
    | _ => cases h
  | .lst es, W, d, sc, X, C, e, h => by
    cases e with
    | List l p =>
      simp only [mE, Bool.and_eq_true, decide_eq_true_eq] at h
      exact snd_lst C (snds_all es C h.1) h.2 fun ρ zs e => evs_len h.1 e
    | _ => cases h
  | .ix a b, W, d, sc, X, C, e, h => by
    cases e with
    | Subscript l r p =>
      simp only [mE, Bool.and_eq_true] at h
      exact snd_ix C (snd_all a C h.1.1) (snd_all b C h.1.2) h.2
    | _ => cases h
  | .slF a lo, W, d, sc, X, C, e, h => by
    unfold mE at h
    split at h
    · simp only [Bool.and_eq_true] at h
      exact snd_slF C (snd_all a C h.1) (snd_all lo C h.2)
    · cases h
  | .slT a hi, W, d, sc, X, C, e, h => by
    unfold mE at h
    split at h
    · simp only [Bool.and_eq_true] at h
      exact snd_slT C (snd_all a C h.1) (snd_all hi C h.2)
    · cases h
  | .slB a lo hi, W, d, sc, X, C, e, h => by
    unfold mE at h
    split at h
    · simp only [Bool.and_eq_true] at h
      exact snd_slB C (snd_all a C h.1.1) (snd_all lo C h.1.2) (snd_all hi C h.2)
    · cases h
  | .call f es, W, d, sc, X, C, e, h => by
    unfold mE at h
    split at h
    · rename_i x p l ls p2
      simp only [Bool.and_eq_true] at h
      obtain ⟨⟨⟨h1, h2⟩, h3⟩, h4⟩ := h
      split at h1
      · rename_i y n fr hf
        simp only [Bool.and_eq_true, decide_eq_true_eq] at h1
        obtain ⟨rfl, rfl⟩ := h1
        exact snd_call C hf rfl h2 h3 (snds_all es C h4) (fun ρ zs e => evs_len h4 e) (mEs_pl h4)
      · cases h1
    · cases h
  | .callB f es, W, d, sc, X, C, e, h => by
    unfold mE at h
    split at h
    · rename_i x p l ls p2
      simp only [Bool.and_eq_true] at h
      obtain ⟨⟨⟨h1, h2⟩, h3⟩, h4⟩ := h
      split at h1
      · rename_i y n fr hf
        simp only [Bool.and_eq_true, decide_eq_true_eq] at h1
        obtain ⟨rfl, rfl⟩ := h1
        exact snd_callB C hf rfl h2 h3 (snds_all es C h4) (fun ρ zs e => evs_len h4 e) (mEs_pl h4)
      · cases h1
    · cases h
  | .bi b es, W, d, sc, X, C, e, h => by
    unfold mE at h
    split at h
    · simp only [Bool.and_eq_true, decide_eq_true_eq] at h
      obtain ⟨⟨rfl, h2⟩, h3⟩ := h
      exact snd_bi C h2 (snds_all es C h3) (mEs_pl h3)
    · cases h
  | .isi a t, W, d, sc, X, C, e, h => by
    unfold mE at h
    split at h
    · simp only [Bool.and_eq_true, decide_eq_true_eq] at h
      obtain ⟨⟨⟨⟨⟨rfl, h2⟩, rfl⟩, h4⟩, h5⟩, h6⟩ := h
      exact snd_isi C h2 h4 (snd_all a C h5) h6
    · cases h
  | .comp it tg own a, W, d, sc, X, C, e, h => by
    unfold mE at h
    split at h
    · rename_i l g i ifs k scope p
      simp only [Bool.and_eq_true, decide_eq_true_eq] at h
      obtain ⟨⟨⟨⟨⟨⟨⟨⟨⟨h1, rfl⟩, h3⟩, h4⟩, h5⟩, h6⟩, h7⟩, h8⟩, h9⟩, h10⟩ := h
      cases ifs with
      | cons _ _ => cases h1
      | nil => exact snd_comp C (sndi_all it C h3) h4 h5 h6 h7 h8 h10 fun s H c cl fp => snd_all a (C.blk s H scope c cl fp) h9
    · cases h
  | .compIf it tg own c a, W, d, sc, X, C, e, h => by
    unfold mE at h
    split at h
    · rename_i l g i ifs k scope p
      simp only [Bool.and_eq_true, decide_eq_true_eq] at h
      obtain ⟨⟨⟨⟨⟨⟨⟨⟨⟨h1, rfl⟩, h3⟩, h4⟩, h5⟩, h6⟩, h7⟩, h8⟩, h9⟩, h10⟩ := h
      match ifs, h1 with
      | [t], h1 =>
        simp only [Bool.and_eq_true] at h1
        exact snd_compIf C (sndi_all it C h3) h4 h5 h6 h7 h8 h10 h1.2 (fun s H c' cl fp => snd_all c (C.blk s H scope c' cl fp) h1.1) fun s H c' cl fp => snd_all a (C.blk s H scope c' cl fp) h9
    · cases h
  | .sset a, W, d, sc, X, C, e, h => by
    unfold mE at h
    split at h
    · simp only [Bool.and_eq_true, decide_eq_true_eq] at h
      obtain ⟨⟨⟨⟨⟨rfl, h2⟩, rfl⟩, h4⟩, h5⟩, h6⟩ := h
      exact snd_sset C h2 h4 (snd_all a C h5) h6
    · cases h
  | .lzip es, W, d, sc, X, C, e, h => by
    unfold mE at h
    split at h
    · simp only [Bool.and_eq_true, decide_eq_true_eq] at h
      obtain ⟨⟨⟨⟨rfl, h2⟩, rfl⟩, h4⟩, h5⟩ := h
      exact snd_lzip C h2 h4 (snds_all es C h5) (mEs_pl h5)
    · cases h
  | .lrng a b, W, d, sc, X, C, e, h => by
    unfold mE at h
    split at h
    · simp only [Bool.and_eq_true, decide_eq_true_eq] at h
      obtain ⟨⟨⟨⟨⟨⟨⟨rfl, h2⟩, rfl⟩, h4⟩, h5⟩, h6⟩, h7⟩, h8⟩ := h
      exact snd_lrng C h2 h4 (snd_all a C h5) h6 (snd_all b C h7) h8
    · cases h
  | .dmin mx a, W, d, sc, X, C, e, h => by
    unfold mE at h
    split at h
    · simp only [Bool.and_eq_true, decide_eq_true_eq] at h
      obtain ⟨⟨⟨⟨rfl, h2⟩, rfl⟩, h4⟩, h5⟩ := h
      cases mx with
      | true => exact snd_dmin (mx := true) C h2 (snd_all a C h4) h5
      | false => exact snd_dmin (mx := false) C h2 (snd_all a C h4) h5
    · cases h
  | .cat a b, W, d, sc, X, C, e, h => by
    cases e with
    | BinOp l op r p =>
      simp only [mE, Bool.and_eq_true, decide_eq_true_eq] at h
      obtain ⟨⟨rfl, h2⟩, h3⟩ := h
      exact snd_cat C (snd_all a C h2) (snd_all b C h3)
    | _ => cases h
  | .call0 f, W, d, sc, X, C, e, h => by
    unfold mE at h
    split at h
    · rename_i x p p2
      simp only [Bool.and_eq_true] at h
      obtain ⟨⟨h1, h2⟩, h3⟩ := h
      split at h1
      · rename_i y n fr hf
        simp only [Bool.and_eq_true, decide_eq_true_eq] at h1
        obtain ⟨rfl, rfl⟩ := h1
        exact snd_call0 C hf h2 h3
      · cases h1
    · cases h
  | .dnew t, W, d, sc, X, C, e, h => by
    unfold mE at h
    split at h
    · exact snd_dnew C
    · cases h
  | .repL es n, W, d, sc, X, C, e, h => by
    unfold mE at h
    split at h
    · simp only [Bool.and_eq_true, decide_eq_true_eq] at h
      obtain ⟨⟨⟨h1, h2⟩, h3⟩, h4⟩ := h
      subst h1 h2
      exact snd_repL C (snds_all es C h3) h4 fun ρ zs e => evs_len h3 e
    · cases h
  | .dlit k v, W, d, sc, X, C, e, h => by
    unfold mE at h
    split at h
    · simp only [Bool.and_eq_true] at h
      exact snd_dlit C (snd_all k C h.1.1) (snd_all v C h.1.2) h.2
    · cases h
  | .dget1 i k, W, d, sc, X, C, e, h => by
    unfold mE at h
    split at h
    · simp only [Bool.and_eq_true, decide_eq_true_eq] at h
      obtain ⟨⟨⟨⟨rfl, h2⟩, h3⟩, h4⟩, h5⟩ := h
      exact snd_dget1 C h3 h2 (snd_all k C h4) h5
    · cases h
  | .dget2 i k z, W, d, sc, X, C, e, h => by
    unfold mE at h
    split at h
    · simp only [Bool.and_eq_true, decide_eq_true_eq] at h
      obtain ⟨⟨⟨⟨⟨⟨⟨rfl, h2⟩, h3⟩, h4⟩, h5⟩, h6⟩, h7⟩, h8⟩ := h
      exact snd_dget2 C h3 h2 (snd_all k C h4) h5 (snd_all z C h6) h7 h8
    · cases h
  | .lrev a, W, d, sc, X, C, e, h => by
    unfold mE at h
    split at h
    · simp only [Bool.and_eq_true, decide_eq_true_eq] at h
      obtain ⟨⟨⟨⟨⟨rfl, h2⟩, rfl⟩, h4⟩, h5⟩, h6⟩ := h
      exact snd_lrev C h2 h4 (snd_all a C h5) h6
    · cases h
theorem snds_all : ∀ (es : Exs) {W : WX} {d : Bool} {sc : Scope} {X : Cx} {s : Bool} (C : Ctx T fn W cls d sc X) {l : List Expr}, mEs T s es sc l = true → PA X l (tL T fn W cls X.K s es)
  | .nil, W, d, sc, X, s, C, l, h => by
    cases l with
    | nil => exact pa_none s
    | cons _ _ => cases h
  | .cons a r, W, d, sc, X, s, C, l, h => by
    cases l with
    | nil => cases h
    | cons e es =>
      simp only [mEs, Bool.and_eq_true] at h
      obtain ⟨⟨⟨h1, h2⟩, h3⟩, h4⟩ := h
      exact pa_some (snd_all a C h1) h2 (fun q => by subst q; simpa using h3) (snds_all r C h4)
theorem sndi_all : ∀ (it : Itr) {W : WX} {d : Bool} {sc : Scope} {X : Cx} (C : Ctx T fn W cls d sc X) {g e : Expr}, mI T it sc g e = true → PI X g e (tIt T fn W cls X.K it)
  | .seq a, W, d, sc, X, C, g, e, h => pi_seq C (snd_all a C (by simpa only [mI] using h))
  | .rng1 a, W, d, sc, X, C, g, e, h => by
    unfold mI at h
    split at h
    · simp only [Bool.and_eq_true, decide_eq_true_eq] at h
      obtain ⟨⟨⟨rfl, h2⟩, h3⟩, h4⟩ := h
      exact pi_rng1 C h2 (snd_all a C h3) h4
    · cases h
  | .rng2 a b, W, d, sc, X, C, g, e, h => by
    unfold mI at h
    split at h
    · simp only [Bool.and_eq_true, decide_eq_true_eq] at h
      obtain ⟨⟨⟨⟨⟨rfl, h2⟩, h3⟩, h4⟩, h5⟩, h6⟩ := h
      exact pi_rng2 C h2 (snd_all a C h3) h4 (snd_all b C h5) h6
    · cases h
  | .rng3 a b c, W, d, sc, X, C, g, e, h => by
    unfold mI at h
    split at h
    · simp only [Bool.and_eq_true, decide_eq_true_eq] at h
      obtain ⟨⟨⟨⟨⟨⟨⟨rfl, h2⟩, h3⟩, h4⟩, h5⟩, h6⟩, h7⟩, h8⟩ := h
      exact pi_rng3 C h2 (snd_all a C h3) h4 (snd_all b C h5) h6 (snd_all c C h7) h8
    · cases h
  | .enum a, W, d, sc, X, C, g, e, h => by
    unfold mI at h
    split at h
    · simp only [Bool.and_eq_true, decide_eq_true_eq] at h
      obtain ⟨⟨⟨⟨rfl, h2⟩, h3⟩, h4⟩, h5⟩ := h
      cases g with
      | Tuple es kk tp => exact pi_enm C h2 (snd_all a C h3) h4
      | _ => cases h5
    · cases h
  | .zip a b, W, d, sc, X, C, g, e, h => by
    unfold mI at h
    split at h
    · simp only [Bool.and_eq_true, decide_eq_true_eq] at h
      obtain ⟨⟨⟨⟨⟨⟨rfl, h2⟩, h3⟩, h4⟩, h5⟩, h6⟩, h7⟩ := h
      cases g with
      | Tuple es kk tp => exact pi_zp C h2 (snd_all a C h3) h4 (snd_all b C h5) h6
      | _ => cases h7
    · cases h
  | .rev a, W, d, sc, X, C, g, e, h => by
    unfold mI at h
    split at h
    · simp only [Bool.and_eq_true, decide_eq_true_eq] at h
      obtain ⟨⟨⟨rfl, h2⟩, h3⟩, h4⟩ := h
      exact pi_rv C h2 (snd_all a C h3) h4
    · cases h
  | .its i, W, d, sc, X, C, g, e, h => by
    unfold mI at h
    split at h
    · simp only [Bool.and_eq_true, decide_eq_true_eq] at h
      obtain ⟨⟨⟨⟨rfl, h2⟩, h3⟩, h4⟩, h5⟩ := h
      cases g with
      | Tuple es kk tp => exact pi_its C h3 h2 h5
      | _ => cases h4
    · cases h
end
end
end Den
namespace Den
open PySem PySem.Spec PyProof.Rows L2

/-! ### statements -/
mutual
inductive Cmd where
  | set (i : Nat) (e : Ex)
  | own (i : Nat) (e : Ex)
  | tgt (is : List Nat) (e : Ex)
  | mov (i j : Nat)
  | aug (i : Nat) (sub : Bool) (e : Ex)
  | setIx (i : Nat) (k e : Ex)
  | app (i : Nat) (e : Ex)
  | appM (i j : Nat)
  | ext (i : Nat) (e : Ex)
  | pop (j i : Nat)
  | clear (i : Nat) | rvs (i : Nat)
  | expr (e : Ex)
  | ret (e : Ex) | retM (i : Nat) | retN
  | if_ (c : Ex) (a b : Cmds)
  | for_ (it : Itr) (tg : Tg) (body : Cmds)
  | while_ (c : Ex) (body : Cmds)
  | pass | brk | cont
  | raise (c : Nat)
  | kill (is : List Nat)
  /-- d[k] = e, d own; .. its key a tuple; a dict that was own, shared and locked as another name -/
  | dput (i : Nat) (k e : Ex)
  | dputT (i : Nat) (k : Exs) (e : Ex)
  | movD (i j : Nat)
  /-- try: body, except the class c as slot i: what is done by the exception's number -/
  | try_ (body : Cmds) (i : Option Nat) (c : Nat) (hs : Hds)
inductive Hds where
  | nil
  | cons (k : Nat) (h : Cmds) (r : Hds)
inductive Cmds where
  | nil
  | cons (c : Cmd) (r : Cmds)
  | shr (i : Nat) (r : Cmds)
end
inductive O where
  | nx (ρ : Env) | brk (ρ : Env) | cont (ρ : Env)
  | ret (z : D)
  | exc (c : Nat) (ρ : Env)
  | bad
/-- an expression, then what follows -/
def thenO {α : Type} (r : R α) (ρ : Env) (f : α → O) : O := match r with
  | .ok z => f z
  | .exc c => .exc c ρ
  | .bad => .bad
/-- a slot is forgotten behind -/
def wipeO (i : Nat) : O → O
  | .nx ρ => .nx (ρ.set i none)
  | .brk ρ => .brk (ρ.set i none)
  | .cont ρ => .cont (ρ.set i none)
  | .exc c ρ => .exc c (ρ.set i none)
  | o => o
def wipeOo (i : Option Nat) (o : O) : O := match i with
  | some i => wipeO i o
  | none => o
/-- a suite raises nothing -/
def noxO : O → O
  | .exc _ _ => .bad
  | o => o
def hasOp (i : Option Nat) (ρ : Env) : Bool := match i with
  | some i => decide (i < ρ.length)
  | none => true
def killOp (i : Option Nat) (ρ : Env) : Env := match i with
  | some i => ρ.set i none
  | none => ρ
def seqO (o : O) (f : Env → O) : O := match o with
  | .nx ρ => f ρ
  | o => o
def forL (f : Env → D → O) : List D → Env → O
  | [], ρ => .nx ρ
  | x :: r, ρ => match f ρ x with
    | .nx ρ' => forL f r ρ'
    | .cont ρ' => forL f r ρ'
    | .brk ρ' => .nx ρ'
    | o => o
def whL (c : Env → R D) (f : Env → O) : Nat → Env → O
  | 0, _ => .bad
  | n + 1, ρ => thenO ((c ρ).bind asBool) ρ fun b => if b then (match f ρ with
    | .nx ρ' => whL c f n ρ'
    | .cont ρ' => whL c f n ρ'
    | .brk ρ' => .nx ρ'
    | o => o) else .nx ρ
def lstV (ρ : Env) (i : Nat) : R (List D) := match ρ[i]? with
  | some (some (.lst ds)) => .ok ds
  | _ => .bad
def dctV (ρ : Env) (i : Nat) : R (List Key × List D) := match ρ[i]? with
  | some (some (.dct false ks ds)) => .ok (ks, ds)
  | _ => .bad
def dcTV (ρ : Env) (i : Nat) : R (List (List Key) × List D) := match ρ[i]? with
  | some (some (.dcT ks ds)) => .ok (ks, ds)
  | _ => .bad
section
variable (fn : Nat → List D → R D) (fu : Nat)
mutual
def evC : Cmd → Env → O
  | .set i e, ρ => thenO (ev fn e ρ) ρ fun z => .nx (setV ρ i z)
  | .own i e, ρ => thenO (ev fn e ρ) ρ fun z => .nx (setV ρ i z)
  | .tgt is e, ρ => thenO (ev fn e ρ) ρ fun z => thenO (bindT ρ (.many is) z) ρ fun ρ' => .nx ρ'
  | .mov i j, ρ => thenO (getV ρ j) ρ fun z => .nx (setV (ρ.set j none) i z)
  | .aug i sub e, ρ => thenO (getV ρ i) ρ fun x => thenO (ev fn e ρ) ρ fun y => thenO ((asInt x).bind fun a => (asInt y).bind fun b => .ok (D.int (if sub then a - b else a + b))) ρ fun z => .nx (setV ρ i z)
  | .setIx i k e, ρ => thenO (ev fn e ρ) ρ fun z => thenO (lstV ρ i) ρ fun ds => thenO (ev fn k ρ) ρ fun y => thenO ((asInt y).bind fun j => someR (ixN ds.length j)) ρ fun j => .nx (setV ρ i (.lst (ds.set j z)))
  | .app i e, ρ => thenO (lstV ρ i) ρ fun ds => thenO (ev fn e ρ) ρ fun z => if ds.length < Line then .nx (setV ρ i (.lst (ds ++ [z]))) else .bad
  | .appM i j, ρ => thenO (lstV ρ i) ρ fun ds => thenO (getV ρ j) ρ fun z => if ds.length < Line then .nx (setV (ρ.set j none) i (.lst (ds ++ [z]))) else .bad
  | .ext i e, ρ => thenO (lstV ρ i) ρ fun ds => thenO (ev fn e ρ) ρ fun z => thenO (itemsL z) ρ fun es => if ds.length + es.length ≤ Line then .nx (setV ρ i (.lst (ds ++ es))) else .bad
  | .pop j i, ρ => thenO (lstV ρ i) ρ fun ds => thenO (someR (ds[ds.length - 1]?)) ρ fun z => .nx (setV (setV ρ i (.lst ds.dropLast)) j z)
  | .clear i, ρ => thenO (lstV ρ i) ρ fun _ => .nx (setV ρ i (.lst []))
  | .rvs i, ρ => thenO (lstV ρ i) ρ fun ds => .nx (setV ρ i (.lst ds.reverse))
  | .expr e, ρ => thenO (ev fn e ρ) ρ fun _ => .nx ρ
  | .ret e, ρ => thenO (ev fn e ρ) ρ fun z => .ret z
  | .retM i, ρ => thenO (getV ρ i) ρ fun z => .ret z
  | .retN, _ => .ret .non
  | .if_ c a b, ρ => thenO ((ev fn c ρ).bind asBool) ρ fun k => if k then evCs a ρ else evCs b ρ
  | .for_ it tg body, ρ => thenO (evi fn it ρ) ρ fun xs => forL (fun ρ x => thenO (bindT ρ tg x) ρ fun ρ' => evCs body ρ') xs ρ
  | .while_ c body, ρ => whL (fun ρ => ev fn c ρ) (fun ρ => evCs body ρ) fu ρ
  | .pass, ρ => .nx ρ
  | .brk, ρ => .brk ρ
  | .cont, ρ => .cont ρ
  | .raise c, ρ => .exc c ρ
  | .kill is, ρ => .nx (wipeE ρ is)
  | .dput i k e, ρ => thenO (ev fn e ρ) ρ fun z => thenO (dctV ρ i) ρ fun p => thenO (ev fn k ρ) ρ fun y => thenO (someR (keyD y)) ρ fun k => if p.1.length < Line then .nx (setV ρ i (.dct false (puK p.1 k) (puV p.1 p.2 k z))) else .bad
  | .dputT i k e, ρ => thenO (ev fn e ρ) ρ fun z => thenO (dcTV ρ i) ρ fun p => thenO (evs fn k ρ) ρ fun ys => thenO (someR (keysD ys)) ρ fun k => if p.1.length < Line then .nx (setV ρ i (.dcT (puK p.1 k) (puV p.1 p.2 k z))) else .bad
  | .movD i j, ρ => thenO (dctV ρ j) ρ fun p => .nx (setV (ρ.set j none) i (.dct true p.1 p.2))
  | .try_ b i _ hs, ρ => match evCs b ρ with
    | .exc k ρ' => if hasOp i ρ' then wipeOo i (evHs hs k (killOp i ρ')) else .bad
    | o => o
def evHs : Hds → Nat → Env → O
  | .nil, _, _ => .bad
  | .cons k h r, n, ρ => if n = k then noxO (evCs h ρ) else evHs r n ρ
def evCs : Cmds → Env → O
  | .nil, ρ => .nx ρ
  | .cons c r, ρ => seqO (evC c ρ) fun ρ' => evCs r ρ'
  | .shr i r, ρ => wipeO i (evCs r ρ)
end
/-- a def called: its body over its arguments -/
def initE (n : Nat) (zs : List D) : Env := zs.map some ++ List.replicate (n - zs.length) none
def runF (n : Nat) (fr : Bool) (body : Cmds) (zs : List D) : R D := match evCs fn fu body (initE n zs) with
  | .ret z => .ok z
  | .nx _ => if fr then .bad else .ok .non
  | .exc c _ => .exc c
  | _ => .bad
end

/-! ### the text against the terms -/
def notLC : Expr → Bool
  | .ListComp _ _ _ _ => false
  | .SetComp _ _ _ _ => false
  | .DictComp _ _ _ _ _ => false
  | _ => true
/-- is the name stored within the comprehension's frame? -/
def swB (sc : Scope) (y : Str) (py : Pos) : Expr → Bool
  | .ListComp _ _ s p => (match sc.names.lookup y with | some .local => true | _ => false) && (py.line == p.line) && !(s.names.any fun (n, k) => n == y && (k == .local || k == .cell))
  | _ => false
def okLC : Expr → Bool
  | .SetComp _ _ _ _ => false
  | .DictComp _ _ _ _ _ => false
  | _ => true
def isComp : Ex → Bool
  | .comp _ _ _ _ => true
  | .compIf _ _ _ _ _ => true
  | _ => false
def nmAt (T : Tbl) (sc : Scope) (i : Nat) (x : Str) : Bool := decide (T.N[i]? = some x) && locB true sc x
def rdAt (T : Tbl) (sc : Scope) (i : Nat) (x : Str) : Bool := decide (T.N[i]? = some x) && visB sc x && nmB x
def isK (T : Tbl) (k : Kd) (e : Ex) : Bool := decide (kd T e = k)
def notTup : Expr → Bool
  | .Tuple _ _ _ => false
  | _ => true
def killB : Cmd → Bool
  | .kill _ => true
  | _ => false
structure Cfg where
  T : Tbl
  sc : Scope
  ex : List Str
  sb : List (Nat × Str × Bool)
  ct : List (Nat × Str)
  fr : Bool
/-- a slot's object is shared from here on -/
def Tbl.shr (T : Tbl) (i : Nat) : Tbl := { T with own := T.own.filter (· != i) }
def Cfg.shr (C : Cfg) (i : Nat) : Cfg := { C with T := C.T.shr i }
/-- isinstance(e, y) of what is caught -/
def isEB (C : Cfg) (oi : Option Nat) (k : Nat) (b : Bool) : Expr → Bool
  | .Call (.Name x _) [.Name n _, .Name y _] [] _ => match oi with
    | some i => decide (x = "isinstance") && blt C.T C.sc x && decide (C.T.N[i]? = some n) && visB C.sc n && nmB n && glB C.sc y && nmB y && decide ((k, y, b) ∈ C.sb)
    | none => false
  | _ => false
def isEZ (C : Cfg) (oi : Option Nat) (k : Nat) (z : D) (e : Expr) : Bool := match z with
  | .bl b => isEB C oi k b e
  | _ => false
mutual
/-- an expression of an except suite -/
def mH (C : Cfg) (oi : Option Nat) (k : Nat) : Ex → Expr → Bool
  | .cst z, e => mE C.T (.cst z) C.sc e || isEZ C oi k z e
  | .var j, e => mE C.T (.var j) C.sc e
  | .and_ a b, e => match e with
    | .BoolOp .And (x :: y :: r) pos => mH C oi k a x && (match r with | [] => mH C oi k b y | z :: r' => mH C oi k b (.BoolOp .And (y :: z :: r') pos)) && ntI x && ntI y
    | _ => false
  | .not_ a, e => match e with
    | .UnaryOp op l _ => decide (op = .Not) && mH C oi k a l && ntI l
    | _ => false
  | .bin o a b, e => match e with
    | .BinOp l op r _ => decide (op = o.py) && mH C oi k a l && mH C oi k b r
    | _ => false
  | .bi b es, e => match e with
    | .Call (.Name x _) [l] [] _ => (match b with | .int_ => true | _ => false) && decide (x = "int") && blt C.T C.sc x && mHl C oi k false es [l]
    | _ => false
  | .lst es, e => match e with
    | .List l _ => mHl C oi k true es l && decide (l.length ≤ Line)
    | _ => false
  | .tup es, e => match e with
    | .Tuple l _ _ => mHl C oi k true es l && decide (l.length ≤ Line)
    | _ => false
  | .ix a b, e => match e with
    | .Subscript l r _ => mH C oi k a l && mH C oi k b r && plE r
    | _ => false
  | _, _ => false
def mHl (C : Cfg) (oi : Option Nat) (k : Nat) (s : Bool) : Exs → List Expr → Bool
  | .nil, l => match l with
    | [] => true
    | _ => false
  | .cons a r, l => match l with
    | e :: es => mH C oi k a e && plE e && (!s || nB C.T a) && mHl C oi k s r es
    | _ => false
end
/-- a statement of an except suite -/
def mHc (C : Cfg) (oi : Option Nat) (k : Nat) : Cmd → Stmt → Bool
  | .set j e, s => match s with
    | .Assign [.Name y _] v _ => nmAt C.T C.sc j y && !C.T.isOwn j && decide (some j ≠ oi) && nB C.T e && mH C oi k e v && notLC v
    | _ => false
  | .own j e, s => match s with
    | .Assign [.Name y _] v _ => nmAt C.T C.sc j y && C.T.isOwn j && decide (some j ≠ oi) && isK C.T .T e && mH C oi k e v && notLC v
    | _ => false
  | .app j e, s => match s with
    | .Expr (.Call (.Attribute (.Name x _) m ap) [v] [] cp) _ => decide (m = "append") && (ap.endLine == cp.line) && rdAt C.T C.sc j x && C.T.isOwn j && nB C.T e && mH C oi k e v && plE v
    | _ => false
  | .ret e, s => match s with
    | .Return (some v) _ => mH C oi k e v && (if C.fr then isK C.T .T e else nB C.T e)
    | _ => false
  | _, _ => false
def mHs (C : Cfg) (oi : Option Nat) (k : Nat) : Cmds → List Stmt → Bool
  | .nil, l => match l with
    | [] => true
    | _ => false
  | .cons c r, l => match l with
    | s :: ss => mHc C oi k c s && mHs C oi k r ss
    | _ => false
  | .shr _ _, _ => false
def mHd (C : Cfg) (oi : Option Nat) (x : Str) : Hds → List Stmt → Bool
  | .nil, _ => true
  | .cons k h r, l => decide ((k, x) ∈ C.ct) && mHs C oi k h l && mHd C oi x r l
/-- the name of what is caught -/
def mAs (C : Cfg) : Option Nat → Option Str → Bool
  | some i, some n => decide (C.T.N[i]? = some n) && !C.T.isOwn i && (match C.sc.names.lookup n with | some .local => true | _ => false)
  | none, none => true
  | _, _ => false
mutual
def mC : Cfg → Cmd → Stmt → Bool
  | C, .set i e, s => match s with
    | .Assign [.Name y py] v _ => nmAt C.T C.sc i y && !C.T.isOwn i && nB C.T e && mE C.T e C.sc v && okLC v && (!swB C.sc y py v || isComp e)
    | _ => false
  | C, .own i e, s => match s with
    | .Assign [.Name y py] v _ => nmAt C.T C.sc i y && C.T.isOwn i && isK C.T .T e && mE C.T e C.sc v && okLC v && (!swB C.sc y py v || isComp e)
    | _ => false
  | C, .tgt is e, s => match s with
    | .Assign [.Tuple es _ _] v _ => mNames C.T true C.sc is es && mE C.T e C.sc v && notLC v && notTup v
    | _ => false
  | C, .mov i j, s => match s with
    | .Assign [.Name y _] (.Name x _) _ => nmAt C.T C.sc i y && !C.T.isOwn i && rdAt C.T C.sc j x && C.T.isOwn j
    | _ => false
  | C, .aug i sub e, s => match s with
    | .AugAssign (.Name y _) op v _ => nmAt C.T C.sc i y && !C.T.isOwn i && decide (op = if sub then .Sub else .Add) && mE C.T e C.sc v
    | _ => false
  | C, .setIx i k e, s => match s with
    | .Assign [.Subscript (.Name x _) r _] v _ => rdAt C.T C.sc i x && C.T.isOwn i && mE C.T k C.sc r && plE r && nB C.T e && mE C.T e C.sc v && notLC v
    | _ => false
  | C, .app i e, s => match s with
    | .Expr (.Call (.Attribute (.Name x _) m ap) [v] [] cp) _ => decide (m = "append") && (ap.endLine == cp.line) && rdAt C.T C.sc i x && C.T.isOwn i && nB C.T e && mE C.T e C.sc v && plE v
    | _ => false
  | C, .appM i j, s => match s with
    | .Expr (.Call (.Attribute (.Name x _) m ap) [.Name y _] [] cp) _ => decide (m = "append") && (ap.endLine == cp.line) && rdAt C.T C.sc i x && C.T.isOwn i && rdAt C.T C.sc j y && C.T.isOwn j && decide (i ≠ j)
    | _ => false
  | C, .ext i e, s => match s with
    | .Expr (.Call (.Attribute (.Name x _) m ap) [v] [] cp) _ => decide (m = "extend") && (ap.endLine == cp.line) && rdAt C.T C.sc i x && C.T.isOwn i && mE C.T e C.sc v && plE v
    | _ => false
  | C, .pop j i, s => match s with
    | .Assign [.Name y _] (.Call (.Attribute (.Name x _) m ap) [] [] cp) _ => decide (m = "pop") && (ap.endLine == cp.line) && rdAt C.T C.sc i x && C.T.isOwn i && nmAt C.T C.sc j y && !C.T.isOwn j
    | _ => false
  | C, .clear i, s => match s with
    | .Expr (.Call (.Attribute (.Name x _) m ap) [] [] cp) _ => decide (m = "clear") && (ap.endLine == cp.line) && rdAt C.T C.sc i x && C.T.isOwn i
    | _ => false
  | C, .rvs i, s => match s with
    | .Expr (.Call (.Attribute (.Name x _) m ap) [] [] cp) _ => decide (m = "reverse") && (ap.endLine == cp.line) && rdAt C.T C.sc i x && C.T.isOwn i
    | _ => false
  | C, .expr e, s => match s with
    | .Expr v _ => mE C.T e C.sc v && notLC v
    | _ => false
  | C, .ret e, s => match s with
    | .Return (some v) _ => mE C.T e C.sc v && (if C.fr then isK C.T .T e else nB C.T e)
    | _ => false
  | C, .retM i, s => match s with
    | .Return (some (.Name x _)) _ => rdAt C.T C.sc i x && C.T.isOwn i
    | _ => false
  | C, .retN, s => match s with
    | .Return none _ => !C.fr
    | _ => false
  | C, .if_ c a b, s => match s with
    | .If t l r _ => mE C.T c C.sc t && ntI t && mCs C a l && mCs C b r
    | _ => false
  | C, .for_ it tg body, s => match s with
    | .For g i l [] _ => mI C.T it C.sc g i && plE i && nBI C.T it && mTg C.T true C.sc tg g && mCs C body l
    | _ => false
  | C, .while_ c body, s => match s with
    | .While t l [] _ => mE C.T c C.sc t && ntI t && mCs C body l
    | _ => false
  | C, .pass, s => match s with
    | .Pass _ => true
    | _ => false
  | C, .brk, s => match s with
    | .Break _ => true
    | _ => false
  | C, .cont, s => match s with
    | .Continue _ => true
    | _ => false
  | C, .raise c, s => match s with
    | .Raise (some (.Call (.Name x _) [.Constant (.str _) _ _] [] _)) none _ => decide (C.ex[c]? = some x) && glB C.sc x && nmB x && decide (x ≠ "")
    | _ => false
  | C, .kill _, _ => false
  | C, .dput i k e, s => match s with
    | .Assign [.Subscript (.Name x _) r _] v _ => rdAt C.T C.sc i x && C.T.isOwn i && mE C.T k C.sc r && plE r && nB C.T e && mE C.T e C.sc v && notLC v
    | _ => false
  | C, .dputT i k e, s => match s with
    | .Assign [.Subscript (.Name x _) (.Tuple l _ _) _] v _ => rdAt C.T C.sc i x && C.T.isOwn i && mEs C.T true k C.sc l && decide (l.length ≤ Line) && nB C.T e && mE C.T e C.sc v && notLC v
    | _ => false
  | C, .movD i j, s => match s with
    | .Assign [.Name y _] (.Name x _) _ => nmAt C.T C.sc i y && !C.T.isOwn i && rdAt C.T C.sc j x && C.T.isOwn j
    | _ => false
  | C, .try_ b i c hs, s => match s with
    | .Try body [.ExceptHandler (some (.Name x _)) n (s0 :: ss) _] [] [] _ => mCs C b body && decide (C.ex[c]? = some x) && glB C.sc x && nmB x && decide (x ≠ "") && mAs C i n && mHd C i x hs (s0 :: ss)
    | _ => false
def mCs : Cfg → Cmds → List Stmt → Bool
  | C, .nil, l => match l with
    | [] => true
    | _ => false
  | C, .cons c r, l => if killB c then mCs C r l else match l with
    | s :: ss => mC C c s && mCs C r ss
    | _ => false
  | C, .shr i r, l => mCs (C.shr i) r l
end
theorem isOwn_shr (T : Tbl) (i j : Nat) : (T.shr i).isOwn j = (T.isOwn j && j != i) := by
  show (T.own.filter (· != i)).contains j = (T.own.contains j && j != i)
  rw [Bool.eq_iff_iff]
  simp [List.mem_filter]


/-! ### the frame, from the entry on -/
structure SI (K : PySem.W.Frag) (own : Nat → Bool) (G0 H0 G : Hp) (ρ : Env) (σ : L2.St) (H : Hp) : Prop where
  F : FI K own G ρ σ H
  t : Stp G0 H0 G H
  fr : ∀ i z a, own i = true → ρ[i]? = some (some z) → σ[i]? = some (some (.ref a)) → H0 a = none
section
variable {K : PySem.W.Frag} {own : Nat → Bool} {G0 H0 G H G1 H1 : Hp} {ρ : Env} {σ : L2.St}
theorem SI.step (I : SI K own G0 H0 G ρ σ H) (t : Stp G H G1 H1) : SI K own G0 H0 G1 ρ σ H1 := ⟨I.F.step t, I.t.trans t, I.fr⟩
theorem SI.setS (I : SI K own G0 H0 G ρ σ H) {i : Nat} {v : V} {z : D} (hi : own i = false) (r : Rp K G v z) : SI K own G0 H0 G (setV ρ i z) (σ.set i (some v)) H := by
  refine ⟨I.F.setS hi r, I.t, fun j y a hj e1 e2 => ?_⟩
  unfold setV at e1
  rcases set_get e1 with ⟨rfl, _⟩ | ⟨n, e1⟩
  · rw [hi] at hj; cases hj
  · rw [List.getElem?_set_ne n] at e2
    exact I.fr j y a hj e1 e2
/-- a new own object into an own slot -/
theorem SI.setO (I : SI K own G0 H0 G ρ σ H) {i : Nat} {a : Addr} {o : HO} {z : D} {G1 H1 : Hp} (hi : own i = true) (t : Stp G H G1 H1) (n : H a = none) (ho : H1 a = some o) (hg : G1 a = none) (r : RpO K G1 o z) :
    SI K own G0 H0 G1 (setV ρ i z) (σ.set i (some (.ref a))) H1 := by
  have I1 := I.step t
  have na : ∀ j y b, own j = true → ρ[j]? = some (some y) → σ[j]? = some (some (.ref b)) → b ≠ a := fun j y b hj e1 e2 q => by
    obtain ⟨b', o', e3, ho', _⟩ := I.F.ow j y hj e1
    rw [e2] at e3
    cases e3
    rw [q, n] at ho'
    cases ho'
  have lt : ∀ {x : D}, (setV ρ i z)[i]? = some (some x) → i < σ.length := fun {x} e => by
    have := (List.getElem?_eq_some_iff.mp e).1
    unfold setV at this
    rw [List.length_set] at this
    rw [← I.F.len]; exact this
  refine ⟨⟨I1.F.ok, by unfold setV; rw [List.length_set, List.length_set]; exact I.F.len, fun j x hj e => ?_, fun j x hj e => ?_, fun j k b x y hj hk e1 e2 e3 e4 => ?_⟩, I1.t, fun j y b hj e1 e2 => ?_⟩
  · unfold setV at e
    rcases set_get e with ⟨rfl, _⟩ | ⟨nn, e⟩
    · rw [hi] at hj; cases hj
    · rw [List.getElem?_set_ne nn]
      exact I1.F.sh j x hj e
  · have e' := e
    unfold setV at e
    rcases set_get e with ⟨rfl, h2⟩ | ⟨nn, e⟩
    · cases h2
      exact ⟨a, o, List.getElem?_set_self (lt e'), ho, hg, r⟩
    · rw [List.getElem?_set_ne nn]
      exact I1.F.ow j x hj e
  · unfold setV at e1 e2
    rcases set_get e1 with ⟨rfl, _⟩ | ⟨n1, e1⟩
    · rcases set_get e2 with ⟨rfl, _⟩ | ⟨n2, e2⟩
      · rfl
      · rw [List.getElem?_set_ne n2] at e4
        have hb := na k y b hk e2 e4
        have : (σ.set i (some (V.ref a)))[i]? = some (some (V.ref a)) := set_at e3
        rw [this] at e3
        cases e3
        exact absurd rfl hb
    · rcases set_get e2 with ⟨rfl, _⟩ | ⟨n2, e2⟩
      · rw [List.getElem?_set_ne n1] at e3
        have hb := na j x b hj e1 e3
        have : (σ.set i (some (V.ref a)))[i]? = some (some (V.ref a)) := set_at e4
        rw [this] at e4
        cases e4
        exact absurd rfl hb
      · rw [List.getElem?_set_ne n1] at e3
        rw [List.getElem?_set_ne n2] at e4
        exact I.F.ap j k b x y hj hk e1 e2 e3 e4
  · unfold setV at e1
    rcases set_get e1 with ⟨rfl, _⟩ | ⟨nn, e1⟩
    · have : (σ.set i (some (V.ref a)))[i]? = some (some (V.ref a)) := set_at e2
      rw [this] at e2
      cases e2
      exact I.t.h.free n
    · rw [List.getElem?_set_ne nn] at e2
      exact I.fr j y b hj e1 e2
/-- an own object changed where it stands -/
theorem SI.upd (I : SI K own G0 H0 G ρ σ H) {i : Nat} {a : Addr} {o' : HO} {z z' : D} (hi : own i = true) (e : ρ[i]? = some (some z)) (e2 : σ[i]? = some (some (.ref a))) (r : RpO K G o' z') :
    SI K own G0 H0 G (setV ρ i z') σ (upd H a o') := by
  obtain ⟨a', o, e3, ho, hg, _⟩ := I.F.ow i z hi e
  rw [e2] at e3
  cases e3
  have h0 : H0 a = none := I.fr i z a hi e e2
  have ne : ∀ j y b, own j = true → j ≠ i → ρ[j]? = some (some y) → σ[j]? = some (some (.ref b)) → b ≠ a := fun j y b hj n e4 e5 q => by
    subst q
    exact n (I.F.ap j i b y z hj hi e4 e e5 e2)
  have ok : Ok2 G (L2.upd H a o') := by
    refine ⟨fun b u q => ?_, fun b u q n => ?_⟩
    · rw [upd_ne (ne_of_none q hg)]; exact I.F.ok.s _ _ q
    · by_cases hb : b = a
      · subst hb; rw [upd_same] at q; cases q; exact r.owb
      · rw [upd_ne hb] at q; exact I.F.ok.z _ _ q n
  refine ⟨⟨ok, by unfold setV; rw [List.length_set]; exact I.F.len, fun j x hj q => ?_, fun j x hj q => ?_, fun j k b x y hj hk q1 q2 q3 q4 => ?_⟩, ⟨fun b u q => ?_, I.t.g, ok, I.t.k⟩, fun j y b hj q1 q2 => ?_⟩
  · unfold setV at q
    rcases set_get q with ⟨rfl, _⟩ | ⟨nn, q⟩
    · rw [hi] at hj; cases hj
    · exact I.F.sh j x hj q
  · unfold setV at q
    rcases set_get q with ⟨rfl, h2⟩ | ⟨nn, q⟩
    · cases h2
      exact ⟨a, o', e2, upd_same, hg, r⟩
    · obtain ⟨b, u, q3, hb, hgb, rb⟩ := I.F.ow j x hj q
      refine ⟨b, u, q3, ?_, hgb, rb⟩
      rw [upd_ne (ne j x b hj (fun t => nn t.symm) q q3)]
      exact hb
  · have some_of : ∀ {l : Nat} {u : D}, (setV ρ i z')[l]? = some (some u) → ∃ u', ρ[l]? = some (some u') := fun {l u} q => by
      unfold setV at q
      rcases set_get q with ⟨rfl, _⟩ | ⟨_, q⟩
      · exact ⟨z, e⟩
      · exact ⟨u, q⟩
    obtain ⟨x', q1⟩ := some_of q1
    obtain ⟨y', q2⟩ := some_of q2
    exact I.F.ap j k b x' y' hj hk q1 q2 q3 q4
  · rw [upd_ne (ne_of_none q h0)]; exact I.t.h _ _ q
  · unfold setV at q1
    rcases set_get q1 with ⟨rfl, _⟩ | ⟨_, q1⟩
    · rw [e2] at q2; cases q2; exact h0
    · exact I.fr j y b hj q1 q2
/-- slots forgotten -/
theorem FI.forget (F : FI K own G ρ σ H) (i : Nat) : FI K own G (ρ.set i none) σ H where
  ok := F.ok
  len := by rw [List.length_set]; exact F.len
  sh := fun j e hj h => by
    rcases set_get h with ⟨_, h2⟩ | ⟨h1, h2⟩
    · cases h2
    · exact F.sh j e hj h2
  ow := fun j e hj h => by
    rcases set_get h with ⟨rfl, h2⟩ | ⟨h1, h2⟩
    · cases h2
    · exact F.ow j e hj h2
  ap := fun j k a x y hj hk h1 h2 h3 h4 => by
    rcases set_get h1 with ⟨_, h1⟩ | ⟨n1, h1⟩
    · cases h1
    · rcases set_get h2 with ⟨_, h2⟩ | ⟨n2, h2⟩
      · cases h2
      · exact F.ap j k a x y hj hk h1 h2 h3 h4
theorem SI.forget (I : SI K own G0 H0 G ρ σ H) (i : Nat) : SI K own G0 H0 G (ρ.set i none) σ H :=
  ⟨I.F.forget i, I.t, fun j z a hj h1 h2 => by
    rcases set_get h1 with ⟨_, h1⟩ | ⟨_, h1⟩
    · cases h1
    · exact I.fr j z a hj h1 h2⟩
theorem SI.wipe (I : SI K own G0 H0 G ρ σ H) : ∀ vs : List Nat, SI K own G0 H0 G (wipeE ρ vs) σ H
  | [] => I
  | v :: vs => (SI.wipe I vs).forget v
/-- an own object is shared from here on; its slot is forgotten -/
theorem SI.free (I : SI K own G0 H0 G ρ σ H) {j : Nat} {z : D} (hj : own j = true) (e : ρ[j]? = some (some z)) :
    ∃ a o G1, σ[j]? = some (some (.ref a)) ∧ H a = some o ∧ G1 = L2.upd G a o ∧ Stp G0 H0 G1 H ∧ Same G G1 ∧ Rp K G1 (.ref a) z ∧ SI K own G0 H0 G1 (ρ.set j none) σ H := by
  obtain ⟨a, o, e2, ho, hg, r⟩ := I.F.ow j z hj e
  have h0 : H0 a = none := I.fr j z a hj e e2
  have t := I.t.freeze h0 hg ho
  have sg : Same G (L2.upd G a o) := same_upd hg
  refine ⟨a, o, _, e2, ho, rfl, t, sg, r.freeze hg, ⟨⟨t.o, by rw [List.length_set]; exact I.F.len, fun i x hi q => ?_, fun i x hi q => ?_, fun i k b x y hi hk q1 q2 q3 q4 => ?_⟩, t, fun i y b hi q1 q2 => ?_⟩⟩
  · rcases set_get q with ⟨_, q⟩ | ⟨_, q⟩
    · cases q
    · obtain ⟨v, q1, q2⟩ := I.F.sh i x hi q
      exact ⟨v, q1, q2.mono sg⟩
  · rcases set_get q with ⟨_, q⟩ | ⟨nn, q⟩
    · cases q
    · obtain ⟨b, u, q3, hb, hgb, rb⟩ := I.F.ow i x hi q
      refine ⟨b, u, q3, hb, ?_, rb.mono sg⟩
      rw [upd_ne ?_]
      · exact hgb
      · rintro rfl
        exact nn (I.F.ap j i b z x hj hi e q e2 q3)
  · rcases set_get q1 with ⟨_, q⟩ | ⟨_, q1⟩
    · cases q
    · rcases set_get q2 with ⟨_, q⟩ | ⟨_, q2⟩
      · cases q
      · exact I.F.ap i k b x y hi hk q1 q2 q3 q4
  · rcases set_get q1 with ⟨_, q⟩ | ⟨_, q1⟩
    · cases q
    · exact I.fr i y b hi q1 q2
/-- an own object is shared and locked; its slot is forgotten -/
theorem SI.keep (I : SI K own G0 H0 G ρ σ H) {j : Nat} {a : Addr} {o' : HO} {z : D} (hj : own j = true) (e : ρ[j]? = some (some z)) (e2 : σ[j]? = some (some (.ref a))) :
    Same G (L2.upd G a o') ∧ SI K own G0 H0 (L2.upd G a o') (ρ.set j none) σ (L2.upd H a o') := by
  obtain ⟨a', o, e3, ho, hg, r⟩ := I.F.ow j z hj e
  rw [e2] at e3
  cases e3
  have h0 : H0 a = none := I.fr j z a hj e e2
  have t : Stp G0 H0 (L2.upd G a o') (L2.upd H a o') := I.t.keep h0 hg
  have sg : Same G (L2.upd G a o') := same_upd hg
  refine ⟨sg, ⟨⟨t.o, by rw [List.length_set]; exact I.F.len, fun i x hi q => ?_, fun i x hi q => ?_, fun i k b x y hi hk q1 q2 q3 q4 => ?_⟩, t, fun i y b hi q1 q2 => ?_⟩⟩
  · rcases set_get q with ⟨_, q⟩ | ⟨_, q⟩
    · cases q
    · obtain ⟨v, q1, q2⟩ := I.F.sh i x hi q
      exact ⟨v, q1, q2.mono sg⟩
  · rcases set_get q with ⟨_, q⟩ | ⟨nn, q⟩
    · cases q
    · obtain ⟨b, u, q3, hb, hgb, rb⟩ := I.F.ow i x hi q
      have ne : b ≠ a := by
        rintro rfl
        exact nn (I.F.ap j i b z x hj hi e q e2 q3)
      exact ⟨b, u, q3, by rw [upd_ne ne]; exact hb, by rw [upd_ne ne]; exact hgb, rb.mono sg⟩
  · rcases set_get q1 with ⟨_, q⟩ | ⟨_, q1⟩
    · cases q
    · rcases set_get q2 with ⟨_, q⟩ | ⟨_, q2⟩
      · cases q
      · exact I.F.ap i k b x y hi hk q1 q2 q3 q4
  · rcases set_get q1 with ⟨_, q⟩ | ⟨_, q1⟩
    · cases q
    · exact I.fr i y b hi q1 q2
/-- .. and stays in its slot, that is no own one from here on -/
theorem SI.share (I : SI K own G0 H0 G ρ σ H) (i : Nat) {own' : Nat → Bool} (ho : ∀ j, own' j = (own j && j != i)) : ∃ G1, Same G G1 ∧ SI K own' G0 H0 G1 ρ σ H := by
  have ho' : ∀ j, own' j = true → own j = true ∧ j ≠ i := fun j h => by
    rw [ho, Bool.and_eq_true] at h
    exact ⟨h.1, by simpa using h.2⟩
  have get : ∀ {j : Nat} {d : Option D}, j ≠ i → (ρ.set i none)[j]? = ρ[j]? := fun n => List.getElem?_set_ne (fun e => n e.symm)
  have from_ : ∀ G1, SI K own G0 H0 G1 (ρ.set i none) σ H → (∀ d, ρ[i]? = some (some d) → own i = true → ∃ v, σ[i]? = some (some v) ∧ Rp K G1 v d) → (∀ j d, own j = false → ρ[j]? = some (some d) → ∃ v, σ[j]? = some (some v) ∧ Rp K G1 v d) → SI K own' G0 H0 G1 ρ σ H := by
    intro G1 I1 hi hs
    refine ⟨⟨I1.F.ok, by have := I1.F.len; rwa [List.length_set] at this, fun j d hj e => ?_, fun j d hj e => ?_, fun j k a x y hj hk e1 e2 e3 e4 => ?_⟩, I1.t, fun j z a hj e1 e2 => ?_⟩
    · cases h : own j with
      | false => exact hs j d h e
      | true =>
        have ej : j = i := by
          have := ho j
          rw [hj, h] at this
          simpa using this.symm
        subst ej
        exact hi d e h
    · obtain ⟨h1, h2⟩ := ho' j hj
      exact I1.F.ow j d h1 (by rw [get (d := none) h2]; exact e)
    · obtain ⟨h1, h2⟩ := ho' j hj
      obtain ⟨h3, h4⟩ := ho' k hk
      exact I1.F.ap j k a x y h1 h3 (by rw [get (d := none) h2]; exact e1) (by rw [get (d := none) h4]; exact e2) e3 e4
    · obtain ⟨h1, h2⟩ := ho' j hj
      exact I1.fr j z a h1 (by rw [get (d := none) h2]; exact e1) e2
  cases hw : own i with
  | false =>
    exact ⟨G, Same.refl _, from_ G (I.forget i) (fun d _ h => by rw [hw] at h; cases h) fun j d hj e => I.F.sh j d hj e⟩
  | true =>
    cases e : ρ[i]? with
    | none => exact ⟨G, Same.refl _, from_ G (I.forget i) (fun d h _ => by rw [e] at h; cases h) fun j d hj e => I.F.sh j d hj e⟩
    | some o =>
      cases o with
      | none => exact ⟨G, Same.refl _, from_ G (I.forget i) (fun d h _ => by rw [e] at h; cases h) fun j d hj e => I.F.sh j d hj e⟩
      | some z =>
        obtain ⟨a, o, G1, e2, ha, eg, t, sg, r, I1⟩ := I.free hw e
        refine ⟨G1, sg, from_ G1 I1 (fun d h _ => ?_) fun j d hj e => ?_⟩
        · rw [e] at h; cases h
          exact ⟨_, e2, r⟩
        · obtain ⟨v, h1, h2⟩ := I.F.sh j d hj e
          exact ⟨v, h1, h2.mono sg⟩
theorem SI.unshare (I : SI K own G0 H0 G ρ σ H) (i : Nat) {own' : Nat → Bool} (ho : ∀ j, own j = (own' j && j != i)) : SI K own' G0 H0 G (ρ.set i none) σ H := by
  have I1 := I.forget i
  have h' : ∀ j d, (ρ.set i none)[j]? = some (some d) → own' j = own j := fun j d e => by
    rcases set_get e with ⟨_, e⟩ | ⟨n, _⟩
    · cases e
    · rw [ho]
      have : (j != i) = true := by simpa using fun q => n q.symm
      rw [this, Bool.and_true]
  refine ⟨⟨I1.F.ok, I1.F.len, fun j d hj e => I1.F.sh j d (by rw [← h' j d e]; exact hj) e, fun j d hj e => I1.F.ow j d (by rw [← h' j d e]; exact hj) e, fun j k a x y hj hk e1 e2 => I1.F.ap j k a x y (by rw [← h' j x e1]; exact hj) (by rw [← h' k y e2]; exact hk) e1 e2⟩, I1.t, fun j z a hj e1 => I1.fr j z a (by rw [← h' j z e1]; exact hj) e1⟩
end
end Den
namespace Den
open PySem PySem.Spec PyProof.Rows L2

section
variable (W : WX) (cls : Nat → Value) (K : PySem.W.Frag) (own : Nat → Bool) (fr : Bool) (G0 H0 : Hp)
/-- what is wanted behind a statement -/
def WantC (o : O) (G : Hp) (D : Ends) : Prop := match o with
  | .nx ρ => ∀ σ' H' G', Same G G' → SI K own G0 H0 G' ρ σ' H' → D.nx σ' H'
  | .brk ρ => ∀ σ' H' G', Same G G' → SI K own G0 H0 G' ρ σ' H' → D.bk σ' H'
  | .cont ρ => ∀ σ' H' G', Same G G' → SI K own G0 H0 G' ρ σ' H' → D.ct σ' H'
  | .ret z => ∀ v H' G', Same G G' → Stp G0 H0 G' H' → PK (if fr then .T else .S) K G0 H0 G' H' v z → D.rt v H'
  | .exc c ρ => ∀ σ' H' G', Same G G' → SI K own G0 H0 G' ρ σ' H' → W (cls c) none σ' H'
  | .bad => False
variable {W cls K own fr G0 H0}
theorem WantC.shift {o : O} {G G1 : Hp} {D : Ends} (s : Same G G1) (h : WantC W cls K own fr G0 H0 o G D) : WantC W cls K own fr G0 H0 o G1 D := by
  cases o with
  | nx ρ => exact fun σ' H' G' t => h σ' H' G' (s.trans t)
  | brk ρ => exact fun σ' H' G' t => h σ' H' G' (s.trans t)
  | cont ρ => exact fun σ' H' G' t => h σ' H' G' (s.trans t)
  | ret z => exact fun v H' G' t => h v H' G' (s.trans t)
  | exc c ρ => exact fun σ' H' G' t => h σ' H' G' (s.trans t)
  | bad => exact h
end

/-- the module's exceptions: a class without more -/
structure ExD (K : PySem.W.Frag) (mg : Str → Option Value) (x : Str) (v : Value) : Prop where
  ex : ∃ C, v = .ref C ∧ mg x = some (.ref C) ∧ PySem.W.excIn K C [.type "ValueError", .type "Exception", .type "BaseException", .type "object"] "ValueError.__new__" = true ∧ PySem.W.keepIn K (.ref C) = true ∧
    PySem.W.subIn K (.ref C) (.type "BaseException") = some true ∧ PySem.W.typeIn K (.ref C) = some (.type "type")
/-- a name of a class: one of ours, or a built-in one -/
def ClsV (mg : Str → Option Value) (y : Str) (cv : Value) (cV : V) : Prop := (∃ C, mg y = some (.ref C) ∧ cv = .ref C ∧ cV = .ref C) ∨ ∃ t, mg y = none ∧ bootBuiltins y = some (.type t) ∧ y ≠ "__name__" ∧ cv = .type t ∧ cV = .ty t
/-- what isinstance says of an exception -/
structure SubD (K : PySem.W.Frag) (mg : Str → Option Value) (v : Value) (y : Str) (b : Bool) : Prop where
  ex : ∃ D cv cV, v = .ref D ∧ ExcC K D ∧ ClsV mg y cv cV ∧ PySem.W.kitOne K (.ref D) cv = some b
/-- what an except clause takes -/
structure CatD (K : PySem.W.Frag) (mg : Str → Option Value) (v : Value) (y : Str) : Prop where
  ex : ∃ D C, v = .ref D ∧ mg y = some (.ref C) ∧ PySem.W.exmOne K (.ref D) (.ref C) = some true
/-- a def's body -/
structure CtxD (C : Cfg) (fn : Nat → List D → R D) (W : WX) (cls : Nat → Value) (X : Cx) : Prop where
  c : Ctx C.T fn W cls true C.sc X
  kind : X.env.scope.kind = .function
  po : PassesOwn (model X.prog X.w) X.A X.env X.xe
  ex : ∀ (n : Nat) (x : Str), C.ex[n]? = some x → x ≠ "" → ExD X.K X.mg x (cls n)
  st : X.stack = X.env :: X.outer
  fm : X.env.frame = some X.env.locals
  sb : ∀ p ∈ C.sb, SubD X.K X.mg (cls p.1) p.2.1 p.2.2
  ct : ∀ p ∈ C.ct, CatD X.K X.mg (cls p.1) p.2

section
variable {C : Cfg} {fn : Nat → List D → R D} {fu : Nat} {W : WX} {cls : Nat → Value} {X : Cx} {G0 H0 : Hp}
def tCm (C : Cfg) (fn : Nat → List D → R D) (fu : Nat) (W : WX) (cls : Nat → Value) (K : PySem.W.Frag) (G0 H0 : Hp) (f : Env → O) : TS := fun D σ H => ∃ G ρ, SI K C.T.isOwn G0 H0 G ρ σ H ∧ WantC W cls K C.T.isOwn C.fr G0 H0 (f ρ) G D
theorem ps_imp {s : Stmt} {t u : TS} (h : PS X s u) (i : ∀ D σ H, t D σ H → u D σ H) : PS X s t := ps_ex fun σ H D q => ⟨u, h, i D σ H q⟩
theorem pss_imp {s : List Stmt} {t u : TS} (h : PSs X s u) (i : ∀ D σ H, t D σ H → u D σ H) : PSs X s t := pss_ex fun σ H D q => ⟨u, h, i D σ H q⟩
/-- an expression, then the rest -/
theorem thenE {e : Ex} {G H : Hp} {ρ : Env} {σ : L2.St} {f : D → O} {D : Ends} {P : VK} (I : SI X.K C.T.isOwn G0 H0 G ρ σ H) (h : WantC W cls X.K C.T.isOwn C.fr G0 H0 (thenO (ev fn e ρ) ρ f) G D)
    (q : ∀ z v H1 G1, Stp G H G1 H1 → SI X.K C.T.isOwn G0 H0 G1 ρ σ H1 → PK (kd C.T e) X.K G H G1 H1 v z → WantC W cls X.K C.T.isOwn C.fr G0 H0 (f z) G1 D → P v H1) : tE C.T fn W cls X.K e σ H P := by
  refine ⟨G, ρ, I.F, ?_⟩
  cases e1 : ev fn e ρ with
  | ok z =>
    rw [e1] at h
    exact fun v H' G' t p => q z v H' G' t (I.step t) p (WantC.shift t.g h)
  | exc c =>
    rw [e1] at h
    exact fun H' G' t => h σ H' G' t.g (I.step t)
  | bad => rw [e1] at h; exact h
theorem thenT {e : Ex} {G H : Hp} {ρ : Env} {σ : L2.St} {f : Bool → O} {D : Ends} {P : Bool → Hp → Prop} (I : SI X.K C.T.isOwn G0 H0 G ρ σ H) (h : WantC W cls X.K C.T.isOwn C.fr G0 H0 (thenO ((ev fn e ρ).bind asBool) ρ f) G D)
    (q : ∀ b H1 G1, Stp G H G1 H1 → SI X.K C.T.isOwn G0 H0 G1 ρ σ H1 → WantC W cls X.K C.T.isOwn C.fr G0 H0 (f b) G1 D → P b H1) : tT C.T fn W cls X.K e σ H P := by
  refine ⟨G, ρ, I.F, ?_⟩
  cases e1 : ev fn e ρ with
  | ok z =>
    rw [e1] at h
    cases z with
    | bl b => exact fun H' G' t => q b H' G' t (I.step t) (WantC.shift t.g h)
    | _ => exact h
  | exc c =>
    rw [e1] at h
    exact fun H' G' t => h σ H' G' t.g (I.step t)
  | bad => rw [e1] at h; exact h
theorem thenI {it : Itr} {G H : Hp} {ρ : Env} {σ : L2.St} {f : List D → O} {D : Ends} {P : It → Hp → Prop} (I : SI X.K C.T.isOwn G0 H0 G ρ σ H) (h : WantC W cls X.K C.T.isOwn C.fr G0 H0 (thenO (evi fn it ρ) ρ f) G D)
    (q : ∀ zs J H1 G1, Stp G H G1 H1 → SI X.K C.T.isOwn G0 H0 G1 ρ σ H1 → Yields X.K (fun H2 => nBI C.T it = true ∨ Same H1 H2) J zs G1 → WantC W cls X.K C.T.isOwn C.fr G0 H0 (f zs) G1 D → P J H1) : tIt C.T fn W cls X.K it σ H P := by
  refine ⟨G, ρ, I.F, ?_⟩
  cases e1 : evi fn it ρ with
  | ok z =>
    rw [e1] at h
    exact fun J H' G' t y => q z J H' G' t (I.step t) y (WantC.shift t.g h)
  | exc c =>
    rw [e1] at h
    exact fun H' G' t => h σ H' G' t.g (I.step t)
  | bad => rw [e1] at h; exact h
/-- data alone, then the rest -/
theorem thenD {α : Type} {r : R α} {G : Hp} {ρ : Env} {f : α → O} {D : Ends} (hn : ∀ c, r ≠ .exc c) (h : WantC W cls X.K C.T.isOwn C.fr G0 H0 (thenO r ρ f) G D) : ∃ z, r = .ok z ∧ WantC W cls X.K C.T.isOwn C.fr G0 H0 (f z) G D := by
  cases r with
  | ok z => exact ⟨z, rfl, h⟩
  | exc c => exact absurd rfl (hn c)
  | bad => exact h.elim
theorem getV_ne (ρ : Env) (i : Nat) : ∀ c, getV ρ i ≠ .exc c := by
  unfold getV
  split <;> first | exact ne_ok | exact ne_bad
theorem lstV_ne (ρ : Env) (i : Nat) : ∀ c, lstV ρ i ≠ .exc c := by
  unfold lstV
  split <;> first | exact ne_ok | exact ne_bad
theorem dctV_ne (ρ : Env) (i : Nat) : ∀ c, dctV ρ i ≠ .exc c := by
  unfold dctV
  split <;> first | exact ne_ok | exact ne_bad
theorem dcTV_ne (ρ : Env) (i : Nat) : ∀ c, dcTV ρ i ≠ .exc c := by
  unfold dcTV
  split <;> first | exact ne_ok | exact ne_bad
theorem dctV_ok {ρ : Env} {i : Nat} {p : List Key × List D} (h : dctV ρ i = .ok p) : ρ[i]? = some (some (.dct false p.1 p.2)) := by
  unfold dctV at h
  split at h
  · rename_i e; cases h; exact e
  · cases h
theorem dcTV_ok {ρ : Env} {i : Nat} {p : List (List Key) × List D} (h : dcTV ρ i = .ok p) : ρ[i]? = some (some (.dcT p.1 p.2)) := by
  unfold dcTV at h
  split at h
  · rename_i e; cases h; exact e
  · cases h
theorem getV_ok {ρ : Env} {i : Nat} {z : D} (h : getV ρ i = .ok z) : ρ[i]? = some (some z) := by
  unfold getV at h
  split at h
  · rename_i e; cases h; exact e
  · cases h
theorem lstV_ok {ρ : Env} {i : Nat} {ds : List D} (h : lstV ρ i = .ok ds) : ρ[i]? = some (some (.lst ds)) := by
  unfold lstV at h
  split at h
  · rename_i e; cases h; exact e
  · cases h
theorem asInt_ne (z : D) : ∀ c, asInt z ≠ .exc c := by
  cases z <;> first | exact ne_ok | exact ne_bad
theorem asInt_ok {z : D} {i : Int} (h : asInt z = .ok i) : z = .int i := by
  cases z <;> cases h; rfl
theorem wantC_nx {ρ : Env} {G H : Hp} {σ : L2.St} {D : Ends} (I : SI X.K C.T.isOwn G0 H0 G ρ σ H) (h : WantC W cls X.K C.T.isOwn C.fr G0 H0 (.nx ρ) G D) : D.nx σ H := h σ H G (Same.refl _) I
theorem nmAt_ok (c : Ctx C.T fn W cls true C.sc X) {i : Nat} {x : Str} (h : nmAt C.T C.sc i x = true) : X.N.Nodup ∧ X.N[i]? = some x ∧ L2.Loc X.env.scope x ∧ (X.fn x = true ∨ X.env.scope.names.lookup x = some .local) := by
  unfold nmAt at h
  rw [Bool.and_eq_true, decide_eq_true_eq] at h
  obtain ⟨l1, _⟩ := locB_ok h.2
  exact ⟨by rw [c.hN]; exact c.nd, by rw [c.hN]; exact h.1, by rw [c.hs]; exact l1, .inl (c.fnc rfl x)⟩
theorem rdAt_ok (c : Ctx C.T fn W cls true C.sc X) {i : Nat} {x : Str} {p : Pos} (h : rdAt C.T C.sc i x = true) : PE X (.Name x p) (tVar i) := by
  unfold rdAt at h
  rw [Bool.and_eq_true, Bool.and_eq_true, decide_eq_true_eq] at h
  obtain ⟨n1, n2, n3⟩ := nmB_ok h.2
  exact pe_var (by rw [c.hN]; exact h.1.1) (by rw [c.hs]; exact visB_ok h.1.2) n1 n2
theorem swB_ok (hk : X.env.scope.kind = .function) {sc : Scope} (hs : X.env.scope = sc) {y : Str} {py : Pos} {l : Nat} {v : Expr} (hv : okLC v = true) : swapsWith v (some (.Name y py)) l X.env = pure (swB sc y py v) := by
  have hb : X.env.blockKind = .function := by unfold PySem.Env.blockKind; rw [hk]; rfl
  cases v with
  | ListComp a b s p =>
    unfold swapsWith swB
    have e1 : (X.env.kindOf y == some NameKind.local) = (match sc.names.lookup y with | some .local => true | _ => false) := by
      unfold PySem.Env.kindOf
      rw [hs]
      cases sc.names.lookup y with
      | none => rfl
      | some k => cases k <;> rfl
    simp only [hb]
    rw [e1]
    rfl
  | SetComp _ _ _ _ => cases hv
  | DictComp _ _ _ _ _ => cases hv
  | _ => rfl
theorem notLC_sw {v : Expr} (h : notLC v = true) {t : Option Expr} {l : Nat} : swapsWith v t l X.env = pure false := by
  cases v <;> first | rfl | cases h
theorem notLC_ok {v : Expr} (h : notLC v = true) : okLC v = true := by
  cases v <;> first | rfl | cases h
end
end Den
namespace Den
open PySem PySem.Spec PyProof.Rows L2
section
variable {C : Cfg} {fn : Nat → List D → R D} {fu : Nat} {W : WX} {cls : Nat → Value} {X : Cx} {G0 H0 : Hp}
theorem sole_sw {t v : Expr} {l : Nat} {env : PySem.Env} (h : notLC v = true) : swapsWithSole [t] v l env = pure false := by
  cases v <;> first | rfl | cases h
theorem isOwnF {T : Tbl} {i : Nat} (h : (!T.isOwn i) = true) : T.isOwn i = false := by cases q : T.isOwn i <;> simp_all

/-- name = expression, whatever the frame of a comprehension does with the name: what the expression's reading must bring -/
theorem ps_store (c : CtxD C fn W cls X) {i : Nat} {y : Str} {py p : Pos} {e : Ex} {v : Expr} {t : TS} (hn : nmAt C.T C.sc i y = true) (hm : mE C.T e C.sc v = true) (ho : okLC v = true) (hs : (!swB C.sc y py v || isComp e) = true)
    (h : ∀ D σ H, t D σ H → tE C.T fn W cls X.K e σ H fun x H1 => D.nx (σ.set i (some x)) H1) : PS X (.Assign [.Name y py] v p) t := by
  obtain ⟨n1, n2, n3, n4⟩ := nmAt_ok c.c hn
  cases hb : swB C.sc y py v with
  | false => exact ps_imp (ps_set n1 n2 n3 (snd_all e c.c hm).pe (by rw [swB_ok c.kind c.c.hs ho, hb]) n4) h
  | true =>
    have hy : X.env.scope.names.lookup y = some .local := by
      unfold swB at hb
      split at hb
      · rw [Bool.and_eq_true, Bool.and_eq_true] at hb
        have hl := hb.1.1
        rw [c.c.hs]
        split at hl
        · assumption
        · cases hl
      · cases hb
    have hsw : swapsWith v (some (.Name y py)) p.line X.env = pure true := by rw [swB_ok c.kind c.c.hs ho, hb]
    rw [hb] at hs
    cases e with
    | comp it tg own a =>
      unfold mE at hm
      split at hm
      · rename_i l g it' ifs k scope p'
        simp only [Bool.and_eq_true, decide_eq_true_eq] at hm
        obtain ⟨⟨⟨⟨⟨⟨⟨⟨⟨h1, rfl⟩, h3⟩, h4⟩, h5⟩, h6⟩, h7⟩, h8⟩, h9⟩, h10⟩ := hm
        cases ifs with
        | cons _ _ => cases h1
        | nil =>
          refine ps_imp (ps_setLc (own := ownP C.T own) (g := gT X.K tg) (tt := tYes) (te := tE C.T fn W0 cls X.K a) c.c.calm n1 n2 hy hsw (sndi_all it c.c h3) (blkOk_by (by rw [c.c.hN, c.c.hs]; exact h8))
            (fun s H c' cl fp => (tg_ok (c.c.blk s H scope c' cl fp) h5).1) (fun _ _ _ _ _ => pts_nil) (fun s H c' cl fp => (snd_all a (c.c.blk s H scope c' cl fp) h9).pe) (plE_set h4)) fun D σ H q => ?_
          rw [ownP_snd]
          exact comp_imp h6 h7 h10 (h D σ H q)
      · cases hm
    | compIf it tg own cc a =>
      unfold mE at hm
      split at hm
      · rename_i l g it' ifs k scope p'
        simp only [Bool.and_eq_true, decide_eq_true_eq] at hm
        obtain ⟨⟨⟨⟨⟨⟨⟨⟨⟨h1, rfl⟩, h3⟩, h4⟩, h5⟩, h6⟩, h7⟩, h8⟩, h9⟩, h10⟩ := hm
        match ifs, h1 with
        | [t], h1 =>
          simp only [Bool.and_eq_true] at h1
          refine ps_imp (ps_setLc (own := ownP C.T own) (g := gT X.K tg) (tt := tT C.T fn W0 cls X.K cc) (te := tE C.T fn W0 cls X.K a) c.c.calm n1 n2 hy hsw (sndi_all it c.c h3) (blkOk_by (by rw [c.c.hN, c.c.hs]; exact h8))
            (fun s H c' cl fp => (tg_ok (c.c.blk s H scope c' cl fp) h5).1) (fun s H c' cl fp => pts_one ((snd_all cc (c.c.blk s H scope c' cl fp) h1.1).pt h1.2)) (fun s H c' cl fp => (snd_all a (c.c.blk s H scope c' cl fp) h9).pe) (plE_set h4)) fun D σ H q => ?_
          rw [ownP_snd]
          exact compIf_imp h6 h7 h10 (h D σ H q)
      · cases hm
    | _ => simp [isComp] at hs
abbrev tCd (C : Cfg) (fn : Nat → List D → R D) (fu : Nat) (W : WX) (cls : Nat → Value) (K : PySem.W.Frag) (G0 H0 : Hp) (x : Cmd) : TS := tCm C fn fu W cls K G0 H0 (evC fn fu x)
/-- .. whose value may be shared -/
theorem thenS {e : Ex} {G H : Hp} {ρ : Env} {σ : L2.St} {f : D → O} {D : Ends} {P : VK} (hn : nB C.T e = true) (I : SI X.K C.T.isOwn G0 H0 G ρ σ H) (h : WantC W cls X.K C.T.isOwn C.fr G0 H0 (thenO (ev fn e ρ) ρ f) G D)
    (q : ∀ z v H1 G1, Stp G H G1 H1 → SI X.K C.T.isOwn G0 H0 G1 ρ σ H1 → Rp X.K G1 v z → WantC W cls X.K C.T.isOwn C.fr G0 H0 (f z) G1 D → P v H1) : tE C.T fn W cls X.K e σ H P := by
  refine ⟨G, ρ, I.F, ?_⟩
  cases e1 : ev fn e ρ with
  | ok z =>
    rw [e1] at h
    intro v H' G' t p
    obtain ⟨G3, t3, r3⟩ := p.toS (nB_ne hn) t
    exact q z v H' G3 t3 (I.step t3) r3 (WantC.shift t3.g h)
  | exc c =>
    rw [e1] at h
    exact fun H' G' t => h σ H' G' t.g (I.step t)
  | bad => rw [e1] at h; exact h
theorem isK_ok {T : Tbl} {k : Kd} {e : Ex} (h : isK T k e = true) : kd T e = k := of_decide_eq_true h
theorem var_of {i : Nat} {σ : L2.St} {H : Hp} {Q : VK} {v : V} (e : σ[i]? = some (some v)) (q : Q v H) : tVar i σ H Q := ⟨v, e, q⟩
theorem own_lst {K : PySem.W.Frag} {own : Nat → Bool} {G H : Hp} {ρ : Env} {σ : L2.St} {i : Nat} {ds : List D} (F : FI K own G ρ σ H) (hi : own i = true) (e : ρ[i]? = some (some (.lst ds))) :
    ∃ a xs, σ[i]? = some (some (.ref a)) ∧ H a = some (.lst xs) ∧ RpL K G xs ds := by
  obtain ⟨a, o, e1, ho, hg, r⟩ := F.ow i _ hi e
  cases r with
  | lst r => exact ⟨a, _, e1, ho, r⟩
theorem cm_set (c : CtxD C fn W cls X) {i : Nat} {e : Ex} {s : Stmt} (h : mC C (.set i e) s = true) : PS X s (tCd C fn fu W cls X.K G0 H0 (.set i e)) := by
  unfold mC at h
  split at h
  · simp only [Bool.and_eq_true] at h
    obtain ⟨⟨⟨⟨⟨h1, h2⟩, h3⟩, h4⟩, h5⟩, h6⟩ := h
    refine ps_store c h1 h4 h5 h6 fun D σ H q => ?_
    obtain ⟨G, ρ, I, q⟩ := q
    exact thenS h3 I q fun z v H1 G1 t1 I1 r1 q1 => wantC_nx (I1.setS (isOwnF h2) r1) q1
  · cases h
theorem cm_own (c : CtxD C fn W cls X) {i : Nat} {e : Ex} {s : Stmt} (h : mC C (.own i e) s = true) : PS X s (tCd C fn fu W cls X.K G0 H0 (.own i e)) := by
  unfold mC at h
  split at h
  · simp only [Bool.and_eq_true] at h
    obtain ⟨⟨⟨⟨⟨h1, h2⟩, h3⟩, h4⟩, h5⟩, h6⟩ := h
    refine ps_store c h1 h4 h5 h6 fun D σ H q => ?_
    obtain ⟨G, ρ, I, q⟩ := q
    refine thenE I q fun z v H1 G1 t1 I1 p1 q1 => ?_
    rw [isK_ok h3] at p1
    obtain ⟨a, o, rfl, n, ho, hg, r⟩ := p1
    exact wantC_nx (I.setO h2 t1 n ho hg r) q1
  · cases h
theorem gNs_readI {K : PySem.W.Frag} {own : Nat → Bool} : ∀ (is : List Nat) (G H : Hp) (ρ ρ' : Env) (σ : L2.St) (vs : List V) (zs : List D) (Q : L2.St → Hp → Prop), (∀ i ∈ is, own i = false) → SI K own G0 H0 G ρ σ H → RpL K G vs zs → setVs ρ is zs = .ok ρ' →
      (∀ σ', SI K own G0 H0 G ρ' σ' H → Q σ' H) → gNs is vs σ H Q
  | [], G, H, ρ, ρ', σ, vs, zs, Q, ho, F, r, e, q => by
    cases zs with
    | nil =>
      cases e
      cases r
      exact ⟨rfl, q σ F⟩
    | cons _ _ => cases e
  | i :: is, G, H, ρ, ρ', σ, vs, zs, Q, ho, F, r, e, q => by
    cases zs with
    | nil => cases e
    | cons z zs =>
      cases r with
      | cons r rr =>
        exact ⟨_, _, rfl, gNs_readI is G H (setV ρ i z) ρ' _ _ zs Q (fun j hj => ho j (List.mem_cons_of_mem _ hj)) (F.setS (ho i (by simp)) r) rr e q⟩
/-- a row of names from a tuple or a list that may be own -/
theorem gM_readI {K : PySem.W.Frag} {own : Nat → Bool} {is : List Nat} {G H : Hp} {ρ ρ' : Env} {σ : L2.St} {v : V} {z : D} {Q : L2.St → Hp → Prop} (ho : ∀ i ∈ is, own i = false) (F : SI K own G0 H0 G ρ σ H) (r : PB K G H v z) (e : bindT ρ (.many is) z = .ok ρ')
    (q : ∀ σ', SI K own G0 H0 G ρ' σ' H → Q σ' H) : gT K (.many is) v σ H Q := by
  cases z with
  | tup ds =>
    obtain ⟨g1, g2⟩ := guard_ok e
    have r : ∃ a xs, v = .ref a ∧ SqT K G a xs ∧ RpL K G xs ds := by
      rcases r with r | ⟨a, o, rfl, _, _, r⟩
      · exact tup_inv r
      · cases r
    obtain ⟨a, xs, rfl, h1, h2⟩ := r
    exact .inl ⟨a, xs, rfl, seqT F.F.sub h1, by rw [h2.len]; exact of_decide_eq_true g1, gNs_readI is G H ρ ρ' σ xs ds Q ho F h2 g2 q⟩
  | lst ds =>
    obtain ⟨g1, g2⟩ := guard_ok e
    have r : ∃ a xs, v = .ref a ∧ SqL K H a xs ∧ RpL K G xs ds := by
      rcases r with r | ⟨a, o, rfl, ho, _, r⟩
      · obtain ⟨a, xs, rfl, h1, h2⟩ := lst_inv r
        exact ⟨a, xs, rfl, F.F.sub.seq h1, h2⟩
      · cases r with
        | lst l => exact ⟨a, _, rfl, SqL.of ho, l⟩
    obtain ⟨a, xs, rfl, h1, h2⟩ := r
    exact .inr ⟨a, xs, rfl, h1, by rw [h2.len]; exact of_decide_eq_true g1, gNs_readI is G H ρ ρ' σ xs ds Q ho F h2 g2 q⟩
  | _ => cases e
theorem gT_readI {K : PySem.W.Frag} {own : Nat → Bool} {tg : Tg} {G H : Hp} {ρ ρ' : Env} {σ : L2.St} {v : V} {z : D} {Q : L2.St → Hp → Prop} (ho : ∀ i ∈ tgS tg, own i = false) (F : SI K own G0 H0 G ρ σ H) (r : Rp K G v z) (e : bindT ρ tg z = .ok ρ')
    (q : ∀ σ', SI K own G0 H0 G ρ' σ' H → Q σ' H) : gT K tg v σ H Q := by
  cases tg with
  | one i =>
    cases e
    exact q _ (F.setS (ho i (by simp [tgS])) r)
  | many is => exact gM_readI ho F (.inl r) e q
  | nest is j =>
    obtain ⟨ds, w, ρ1, rfl, hl, e1, rfl⟩ := nest_inv e
    obtain ⟨a, xs, rfl, h1, h2⟩ := tup_inv r
    cases h2 with
    | cons r1 h2 =>
      cases h2 with
      | cons r2 h2 =>
        cases h2
        obtain ⟨b, ys, rfl, h3, h4⟩ := tup_inv r1
        refine ⟨a, _, rfl, seqT F.F.sub h1, rfl, _, _, rfl, ⟨b, ys, rfl, seqT F.F.sub h3, by rw [h4.len]; exact hl, ?_⟩⟩
        exact gNs_readI is G H ρ ρ1 σ ys ds _ (fun i hi => ho i (List.mem_cons_of_mem _ hi)) F h4 e1 fun σ' F' => ⟨_, _, rfl, rfl, q _ (F'.setS (ho j (by simp [tgS])) r2)⟩
theorem setVs_ne : ∀ (is : List Nat) (ds : List Den.D) (ρ : Env) (c : Nat), setVs ρ is ds ≠ .exc c
  | [], [], _, _ => fun q => nomatch q
  | [], _ :: _, _, _ => fun q => nomatch q
  | _ :: _, [], _, _ => fun q => nomatch q
  | i :: is, d :: ds, ρ, c => setVs_ne is ds _ c
theorem bindT_ne (ρ : Env) (tg : Tg) (z : D) : ∀ c, bindT ρ tg z ≠ .exc c := by
  intro c
  cases tg with
  | one i => exact ne_ok c
  | many is =>
    cases z with
    | tup ds => exact ne_guard (setVs_ne is ds ρ) c
    | lst ds => exact ne_guard (setVs_ne is ds ρ) c
    | _ => exact ne_bad c
  | nest is j =>
    intro e
    unfold bindT at e
    split at e
    · cases ‹Tg.nest is j = Tg.one _›
    · cases ‹Tg.nest is j = Tg.many _›
    · cases ‹Tg.nest is j = Tg.many _›
    · cases ‹Tg.nest is j = Tg.many _›
    · exact ne_guard (ne_bind (setVs_ne _ _ _) fun _ => ne_ok) c e
    · exact ne_bad c e
theorem cm_tgt (c : CtxD C fn W cls X) {is : List Nat} {e : Ex} {s : Stmt} (h : mC C (.tgt is e) s = true) : PS X s (tCd C fn fu W cls X.K G0 H0 (.tgt is e)) := by
  unfold mC at h
  split at h
  · simp only [Bool.and_eq_true] at h
    obtain ⟨⟨⟨h1, h3⟩, h4⟩, h5⟩ := h
    rename_i es k p v p2
    obtain ⟨ht, hl, hx, hq⟩ := names_ok c.c h1
    refine ps_imp (ps_asg (snd_all e c.c h3).pe (pg_or (pg_tup (k := k) (pos := p) c.c.calm ht hl hx) (pg_unl (k := k) (pos := p) c.c.calm ht hl hx)) (sole_sw h4) (by cases v <;> first | rfl | cases h5) rfl) fun D σ H q => ?_
    obtain ⟨G, ρ, I, q⟩ := q
    refine thenE I q fun z v H1 G1 t1 I1 r1 q1 => ?_
    obtain ⟨ρ', e2, q2⟩ := thenD (bindT_ne _ _ _) q1
    exact gM_readI hq I1 r1.toB e2 fun σ' I' => wantC_nx I' q2
  · cases h
theorem cm_mov (c : CtxD C fn W cls X) {i j : Nat} {s : Stmt} (h : mC C (.mov i j) s = true) : PS X s (tCd C fn fu W cls X.K G0 H0 (.mov i j)) := by
  unfold mC at h
  split at h
  · simp only [Bool.and_eq_true] at h
    obtain ⟨⟨⟨h1, h2⟩, h3⟩, h4⟩ := h
    obtain ⟨n1, n2, n3, n4⟩ := nmAt_ok c.c h1
    refine ps_imp (ps_set n1 n2 n3 (rdAt_ok c.c h3) rfl n4) fun D σ H q => ?_
    obtain ⟨G, ρ, I, q⟩ := q
    obtain ⟨z, e1, q1⟩ := thenD (getV_ne _ _) q
    obtain ⟨a, o, G1, e2, ho, hG, t, sg, r, I1⟩ := I.free h4 (getV_ok e1)
    exact ⟨_, e2, wantC_nx (I1.setS (isOwnF h2) r) (WantC.shift sg q1)⟩
  · cases h
theorem cm_aug (c : CtxD C fn W cls X) {i : Nat} {b : Bool} {e : Ex} {s : Stmt} (h : mC C (.aug i b e) s = true) : PS X s (tCd C fn fu W cls X.K G0 H0 (.aug i b e)) := by
  unfold mC at h
  split at h
  · simp only [Bool.and_eq_true, decide_eq_true_eq] at h
    obtain ⟨⟨⟨h1, h2⟩, h3⟩, h4⟩ := h
    obtain ⟨n1, n2, n3, n4⟩ := nmAt_ok c.c h1
    subst h3
    have ip : PIp X (if b then .Sub else .Add) (ipI fun x y => if b then x - y else x + y) := by
      cases b with
      | true => exact ip_sub
      | false => exact ip_add
    refine ps_imp (ps_aug n1 n2 n3 (snd_all e c.c h4).pe ip n4) fun D σ H q => ?_
    obtain ⟨G, ρ, I, q⟩ := q
    obtain ⟨x, e1, q1⟩ := thenD (getV_ne _ _) q
    obtain ⟨v, e2, r⟩ := I.F.sh i x (isOwnF h2) (getV_ok e1)
    refine ⟨v, e2, ?_⟩
    refine thenE I q1 fun z w H1 G1 t1 I1 p1 q2 => ?_
    obtain ⟨u, e3, q3⟩ := thenD (ne_bind (asInt_ne _) fun _ => ne_bind (asInt_ne _) fun _ => ne_ok) q2
    obtain ⟨m, f1, e4⟩ := bind_okE e3
    obtain ⟨n, f2, e5⟩ := bind_okE e4
    cases e5
    have g1 := asInt_ok f1
    have g2 := asInt_ok f2
    subst g1 g2
    exact ⟨m, n, int_inv r, p1.int, wantC_nx (I1.setS (isOwnF h2) (.int _)) q3⟩
  · cases h
theorem cm_setIx (c : CtxD C fn W cls X) {i : Nat} {k e : Ex} {s : Stmt} (h : mC C (.setIx i k e) s = true) : PS X s (tCd C fn fu W cls X.K G0 H0 (.setIx i k e)) := by
  unfold mC at h
  split at h
  · simp only [Bool.and_eq_true] at h
    obtain ⟨⟨⟨⟨⟨⟨h1, h2⟩, h3⟩, h4⟩, h5⟩, h6⟩, h7⟩ := h
    rename_i x p0 r p1 v p2
    refine ps_imp (ps_asg (snd_all e c.c h6).pe (pg_sub (rdAt_ok c.c h1) (snd_all k c.c h3).pe set_list (by intro _; cases r <;> first | rfl | cases h4)) (sole_sw h7) rfl rfl) fun D σ H q => ?_
    obtain ⟨G, ρ, I, q⟩ := q
    refine thenS h5 I q fun z v H1 G1 t1 I1 r1 q1 => ?_
    obtain ⟨ds, e1, q2⟩ := thenD (lstV_ne _ _) q1
    have e1 := lstV_ok e1
    obtain ⟨a, xs, e2, ho, hr⟩ := own_lst I1.F h2 e1
    refine ⟨_, e2, ?_⟩
    refine thenE I1 q2 fun y w H2 G2 t2 I2 p2 q3 => ?_
    obtain ⟨j, e3, q4⟩ := thenD (ne_bind (asInt_ne _) fun _ => someR_ne _) q3
    obtain ⟨m, f1, f2⟩ := bind_okE e3
    have g1 := asInt_ok f1
    subst g1
    refine ⟨a, xs, m, j, rfl, p2.int, t2.h _ _ ho, by rw [hr.len]; exact someR_ok f2, ?_⟩
    exact wantC_nx (I2.upd h2 e1 e2 (.lst ((hr.mono t2.g).set (r1.mono t2.g) j))) q4
  · cases h
/-! ### dicts changed -/
theorem own_dct {K : PySem.W.Frag} {own : Nat → Bool} {G H : Hp} {ρ : Env} {σ : L2.St} {i : Nat} {ks : List Key} {ds : List D} (F : FI K own G ρ σ H) (hi : own i = true) (e : ρ[i]? = some (some (.dct false ks ds))) :
    ∃ a kvs, σ[i]? = some (some (.ref a)) ∧ H a = some (.dK kvs) ∧ kvs.map (·.1) = ks ∧ RpL K G (kvs.map (·.2)) ds := by
  obtain ⟨a, o, e1, ho, hg, r⟩ := F.ow i _ hi e
  cases r with
  | dct r => exact ⟨a, _, e1, ho, rfl, r⟩
theorem own_dcT {K : PySem.W.Frag} {own : Nat → Bool} {G H : Hp} {ρ : Env} {σ : L2.St} {i : Nat} {ks : List (List Key)} {ds : List D} (F : FI K own G ρ σ H) (hi : own i = true) (e : ρ[i]? = some (some (.dcT ks ds))) :
    ∃ a kvs, σ[i]? = some (some (.ref a)) ∧ H a = some (.dT kvs) ∧ kvs.map (·.1) = ks ∧ RpL K G (kvs.map (·.2)) ds := by
  obtain ⟨a, o, e1, ho, hg, r⟩ := F.ow i _ hi e
  cases r with
  | dcT r => exact ⟨a, _, e1, ho, rfl, r⟩
section
variable {κ : Type} [DecidableEq κ] {K : PySem.W.Frag} {G : Hp}
theorem any_key (k : κ) : ∀ kvs : List (κ × V), ((kvs.any fun kv => decide (kv.1 = k)) = true) ↔ k ∈ kvs.map (·.1)
  | [] => by simp
  | p :: r => by
    rw [List.any_cons, Bool.or_eq_true, any_key k r, List.map_cons, List.mem_cons, decide_eq_true_eq]
    constructor
    · rintro (h | h)
      · exact .inl h.symm
      · exact .inr h
    · rintro (h | h)
      · exact .inl h.symm
      · exact .inr h
theorem put_keys (kvs : List (κ × V)) (k : κ) (v : V) : (putK kvs k v).map (·.1) = puK (kvs.map (·.1)) k := by
  unfold putK puK
  by_cases h : (kvs.any fun kv => decide (kv.1 = k)) = true
  · rw [if_pos h, if_pos ((any_key k kvs).mp h), List.map_map]
    apply List.map_congr_left
    intro p _
    show (if p.1 = k then (p.1, v) else p).1 = p.1
    split <;> rfl
  · rw [if_neg h, if_neg (fun q => h ((any_key k kvs).mpr q)), List.map_append]
    rfl
theorem put_repl {k : κ} {v : V} {z : D} (r : Rp K G v z) : ∀ {kvs : List (κ × V)} {ds : List D}, RpL K G (kvs.map (·.2)) ds → RpL K G ((kvs.map fun kv => if kv.1 = k then (kv.1, v) else kv).map (·.2)) (puR k z (kvs.map (·.1)) ds)
  | [], [], _ => .nil
  | [], _ :: _, h => by cases h
  | _ :: _, [], h => by cases h
  | p :: kvs, d :: ds, h => by
    rw [List.map_cons] at h
    cases h with
    | cons h t =>
      rw [List.map_cons, List.map_cons, List.map_cons]
      unfold puR
      by_cases e : p.1 = k
      · rw [if_pos e, if_pos e]
        exact .cons r (put_repl r t)
      · rw [if_neg e, if_neg e]
        exact .cons h (put_repl r t)
theorem put_vals {kvs : List (κ × V)} {ds : List D} {k : κ} {v : V} {z : D} (l : RpL K G (kvs.map (·.2)) ds) (r : Rp K G v z) : RpL K G ((putK kvs k v).map (·.2)) (puV (kvs.map (·.1)) ds k z) := by
  unfold putK puV
  by_cases h : (kvs.any fun kv => decide (kv.1 = k)) = true
  · rw [if_pos h, if_pos ((any_key k kvs).mp h)]
    exact put_repl r l
  · rw [if_neg h, if_neg (fun q => h ((any_key k kvs).mpr q)), List.map_append]
    exact l.append (.cons r .nil)
end
theorem put_dct {K : PySem.W.Frag} {G : Hp} {kvs : List (Key × V)} {ds : List D} {k : Key} {v : V} {z : D} (l : RpL K G (kvs.map (·.2)) ds) (r : Rp K G v z) : RpO K G (.dK (putK kvs k v)) (.dct false (puK (kvs.map (·.1)) k) (puV (kvs.map (·.1)) ds k z)) := by
  rw [← put_keys kvs k v]
  exact .dct (put_vals l r)
theorem put_dcT {K : PySem.W.Frag} {G : Hp} {kvs : List (List Key × V)} {ds : List D} {k : List Key} {v : V} {z : D} (l : RpL K G (kvs.map (·.2)) ds) (r : Rp K G v z) : RpO K G (.dT (putK kvs k v)) (.dcT (puK (kvs.map (·.1)) k) (puV (kvs.map (·.1)) ds k z)) := by
  rw [← put_keys kvs k v]
  exact .dcT (put_vals l r)
theorem keysD_ok {K : PySem.W.Frag} {G : Hp} : ∀ {ds : List Den.D} {vs : List V} {ks : List Key}, RpL K G vs ds → keysD ds = some ks → vs = ks.map kV
  | [], _, _, .nil, h => by cases h; rfl
  | d :: ds, _, _, .cons r l, h => by
    unfold keysD at h
    obtain ⟨k, h1, h2⟩ := Option.bind_eq_some_iff.mp h
    obtain ⟨q, h3, rfl⟩ := Option.map_eq_some_iff.mp h2
    rw [List.map_cons, ← keysD_ok l h3]
    congr 1
    cases d with
    | int i => cases h1; rw [int_inv r]; rfl
    | str i => cases h1; rw [str_inv r]; rfl
    | _ => cases h1
theorem keysD_len : ∀ {ds : List Den.D} {ks : List Key} {n : Nat}, keysD ds = some ks → ds.length = n → ks.length = n
  | [], _, _, h, e => by cases h; exact e
  | d :: ds, _, n, h, e => by
    unfold keysD at h
    obtain ⟨k, h1, h2⟩ := Option.bind_eq_some_iff.mp h
    obtain ⟨q, h3, rfl⟩ := Option.map_eq_some_iff.mp h2
    rw [List.length_cons, keysD_len h3 rfl, ← e, List.length_cons]
theorem thenLs {es : Exs} {G H : Hp} {ρ : Env} {σ : L2.St} {f : List Den.D → O} {D : Ends} {P : List V → Hp → Prop} (I : SI X.K C.T.isOwn G0 H0 G ρ σ H) (h : WantC W cls X.K C.T.isOwn C.fr G0 H0 (thenO (evs fn es ρ) ρ f) G D)
    (q : ∀ zs vs H1 G1, evs fn es ρ = .ok zs → Stp G H G1 H1 → SI X.K C.T.isOwn G0 H0 G1 ρ σ H1 → RpL X.K G1 vs zs → WantC W cls X.K C.T.isOwn C.fr G0 H0 (f zs) G1 D → P vs H1) : tL C.T fn W cls X.K true es σ H P := by
  refine ⟨G, ρ, I.F, ?_⟩
  cases e1 : evs fn es ρ with
  | ok z =>
    rw [e1] at h
    exact fun v H' G' t p => q z v H' G' e1 t (I.step t) p (WantC.shift t.g h)
  | exc c =>
    rw [e1] at h
    exact fun H' G' t => h σ H' G' t.g (I.step t)
  | bad => rw [e1] at h; exact h
theorem cm_dput (c : CtxD C fn W cls X) {i : Nat} {k e : Ex} {s : Stmt} (h : mC C (.dput i k e) s = true) : PS X s (tCd C fn fu W cls X.K G0 H0 (.dput i k e)) := by
  have hu := c.c.un
  unfold mC at h
  split at h
  · simp only [Bool.and_eq_true] at h
    obtain ⟨⟨⟨⟨⟨⟨h1, h2⟩, h3⟩, h4⟩, h5⟩, h6⟩, h7⟩ := h
    refine ps_imp (ps_dput (by omega) (rdAt_ok c.c h1) (snd_all k c.c h3).pe (snd_all e c.c h6).pe (notLC_sw h7)) fun D σ H q => ?_
    obtain ⟨G, ρ, I, q⟩ := q
    refine thenS h5 I q fun z v H1 G1 t1 I1 r1 q1 => ?_
    obtain ⟨p, e1, q2⟩ := thenD (dctV_ne _ _) q1
    have e1 := dctV_ok e1
    obtain ⟨a, kvs, e2, ho, hk, hr⟩ := own_dct I1.F h2 e1
    refine ⟨_, e2, ?_⟩
    refine thenE I1 q2 fun y w H2 G2 t2 I2 p2 q3 => ?_
    obtain ⟨kk, e3, q4⟩ := thenD (someR_ne _) q3
    split at q4
    · rename_i hl
      rw [← hk, List.length_map] at hl
      have ew : w = kV kk := p2.toB.key (someR_ok e3)
      subst ew
      refine ⟨a, _, rfl, DPut.k (t2.h _ _ ho) (by rw [sizeLn]; exact hl), ?_⟩
      rw [← hk] at q4
      exact wantC_nx (I2.upd h2 e1 e2 (put_dct (hr.mono t2.g) (r1.mono t2.g))) q4
    · exact q4.elim
  · cases h
theorem cm_dputT (c : CtxD C fn W cls X) {i : Nat} {k : Exs} {e : Ex} {s : Stmt} (h : mC C (.dputT i k e) s = true) : PS X s (tCd C fn fu W cls X.K G0 H0 (.dputT i k e)) := by
  have hu := c.c.un
  unfold mC at h
  split at h
  · simp only [Bool.and_eq_true, decide_eq_true_eq] at h
    obtain ⟨⟨⟨⟨⟨⟨h1, h2⟩, h3⟩, h4⟩, h5⟩, h6⟩, h7⟩ := h
    refine ps_imp (ps_dput (by omega) (rdAt_ok c.c h1) (pe_tup (snds_all k c.c h3)) (snd_all e c.c h6).pe (notLC_sw h7)) fun D σ H q => ?_
    obtain ⟨G, ρ, I, q⟩ := q
    refine thenS h5 I q fun z v H1 G1 t1 I1 r1 q1 => ?_
    obtain ⟨p, e1, q2⟩ := thenD (dcTV_ne _ _) q1
    have e1 := dcTV_ok e1
    obtain ⟨a, kvs, e2, ho, hk, hr⟩ := own_dcT I1.F h2 e1
    refine ⟨_, e2, ?_⟩
    refine thenLs I1 q2 fun ys ws H2 G2 ee t2 I2 p2 q3 => ?_
    obtain ⟨kk, e3, q4⟩ := thenD (someR_ne _) q3
    split at q4
    · rename_i hl
      rw [← hk, List.length_map] at hl
      have ew : ws = kk.map kV := keysD_ok p2 (someR_ok e3)
      subst ew
      refine ⟨?_, fun b hb => ?_⟩
      · rw [sizeLn, List.length_map]
        exact Nat.le_trans (Nat.le_of_eq (keysD_len (someR_ok e3) (evs_len h3 ee))) h4
      have t3 : Stp G2 H2 (L2.upd G2 b (.tup (kk.map kV))) (L2.upd H2 b (.tup (kk.map kV))) := Stp.newS I2.F.ok hb
      have I3 := I2.step t3
      refine ⟨a, _, rfl, DPut.t (t3.h _ _ (t2.h _ _ ho)) upd_same (by rw [sizeLn]; exact hl), ?_⟩
      rw [← hk] at q4
      exact wantC_nx (I3.upd h2 e1 e2 (put_dcT ((hr.mono t2.g).mono t3.g) ((r1.mono t2.g).mono t3.g))) (WantC.shift t3.g q4)
    · exact q4.elim
  · cases h
theorem cm_movD (c : CtxD C fn W cls X) {i j : Nat} {s : Stmt} (h : mC C (.movD i j) s = true) : PS X s (tCd C fn fu W cls X.K G0 H0 (.movD i j)) := by
  unfold mC at h
  split at h
  · simp only [Bool.and_eq_true] at h
    obtain ⟨⟨⟨h1, h2⟩, h3⟩, h4⟩ := h
    obtain ⟨n1, n2, n3, n4⟩ := nmAt_ok c.c h1
    refine ps_imp (ps_set n1 n2 n3 (pe_keep (rdAt_ok c.c h3)) rfl n4) fun D σ H q => ?_
    obtain ⟨G, ρ, I, q⟩ := q
    obtain ⟨p, e1, q1⟩ := thenD (dctV_ne _ _) q
    have e1 := dctV_ok e1
    obtain ⟨a, kvs, e2, ho, hk, hr⟩ := own_dct I.F h4 e1
    refine ⟨_, e2, a, _, rfl, ho, trivial, fun od => ?_⟩
    obtain ⟨sg, I1⟩ := I.keep (o' := .frz od (.dK kvs)) h4 e1 e2
    rw [← hk] at q1
    exact wantC_nx (I1.setS (isOwnF h2) (.dctL upd_same (hr.mono sg))) (WantC.shift sg q1)
  · cases h
theorem few1 {v : Expr} {cp : Pos} (h : plE v = true) : ((backTo cp (starEach [v] X.env)).all (fun x => !x.1) && (backToKw cp (keywordEach [] X.env)).all (fun x => x.1.isSome)
      && decide (([v] : List Expr).length + ([] : List Keyword).length + (if ([] : List Keyword).isEmpty then 0 else 1) < 30)) = true := by
  rw [plE_star h]; rfl
theorem tyV_lst {K : PySem.W.Frag} {a : Addr} {H : Hp} {xs : List V} (h : H a = some (.lst xs)) : tyV K "list" (.ref a) H := .inl ⟨rfl, _, SqL.of h⟩
theorem cm_app (c : CtxD C fn W cls X) {i : Nat} {e : Ex} {s : Stmt} (h : mC C (.app i e) s = true) : PS X s (tCd C fn fu W cls X.K G0 H0 (.app i e)) := by
  unfold mC at h
  split at h
  · simp only [Bool.and_eq_true, decide_eq_true_eq] at h
    obtain ⟨⟨⟨⟨⟨⟨h0, hl0⟩, h1⟩, h2⟩, h3⟩, h4⟩, h5⟩ := h
    subst h0
    refine ps_imp (ps_expr (pe_bm PySem.F.plainAttrs_list PySem.F.slot_list_append PySem.F.type_list_append mt_append (rdAt_ok c.c h1) (pa_cons (snd_all e c.c h4).pe pa_nil (plE_star h5)) rfl (few1 h5) hl0 (plE_star h5))) fun D σ H q => ?_
    obtain ⟨G, ρ, I, q⟩ := q
    obtain ⟨ds, e1, q1⟩ := thenD (lstV_ne _ _) q
    have e1 := lstV_ok e1
    obtain ⟨a, xs, e2, ho, hr⟩ := own_lst I.F h2 e1
    refine ⟨_, e2, tyV_lst ho, ?_⟩
    refine thenS h3 I q1 fun z v H1 G1 t1 I1 r1 q2 => ?_
    split at q2
    · rename_i hl
      refine ⟨a, xs, v, rfl, rfl, t1.h _ _ ho, by rw [hr.len, sizeLn]; exact hl, ?_⟩
      exact wantC_nx (I1.upd h2 e1 e2 (.lst ((hr.mono t1.g).append (.cons r1 .nil)))) q2
    · exact q2.elim
  · cases h
theorem cm_appM (c : CtxD C fn W cls X) {i j : Nat} {s : Stmt} (h : mC C (.appM i j) s = true) : PS X s (tCd C fn fu W cls X.K G0 H0 (.appM i j)) := by
  unfold mC at h
  split at h
  · simp only [Bool.and_eq_true, decide_eq_true_eq] at h
    obtain ⟨⟨⟨⟨⟨⟨h0, hl0⟩, h1⟩, h2⟩, h3⟩, h4⟩, h5⟩ := h
    subst h0
    refine ps_imp (ps_expr (pe_bm PySem.F.plainAttrs_list PySem.F.slot_list_append PySem.F.type_list_append mt_append (rdAt_ok c.c h1) (pa_cons (rdAt_ok c.c h3) pa_nil) rfl rfl hl0)) fun D σ H q => ?_
    obtain ⟨G, ρ, I, q⟩ := q
    obtain ⟨ds, e1, q1⟩ := thenD (lstV_ne _ _) q
    have e1 := lstV_ok e1
    obtain ⟨a, xs, e2, ho, hr⟩ := own_lst I.F h2 e1
    obtain ⟨z, f1, q2⟩ := thenD (getV_ne _ _) q1
    obtain ⟨b, o, G1, g2, hb, hG, t, sg, r, I1⟩ := I.free h4 (getV_ok f1)
    refine ⟨_, e2, tyV_lst ho, _, g2, ?_⟩
    split at q2
    · rename_i hl
      refine ⟨a, xs, .ref b, rfl, rfl, ho, by rw [hr.len, sizeLn]; exact hl, ?_⟩
      have e3 : (ρ.set j none)[i]? = some (some (.lst ds)) := by rw [List.getElem?_set_ne (fun q => h5 q.symm)]; exact e1
      exact wantC_nx (I1.upd h2 e3 e2 (.lst ((hr.mono sg).append (.cons r .nil)))) (WantC.shift sg q2)
    · exact q2.elim
  · cases h
theorem cm_ext (c : CtxD C fn W cls X) {i : Nat} {e : Ex} {s : Stmt} (h : mC C (.ext i e) s = true) : PS X s (tCd C fn fu W cls X.K G0 H0 (.ext i e)) := by
  unfold mC at h
  split at h
  · simp only [Bool.and_eq_true, decide_eq_true_eq] at h
    obtain ⟨⟨⟨⟨⟨h0, hl0⟩, h1⟩, h2⟩, h4⟩, h5⟩ := h
    subst h0
    refine ps_imp (ps_expr (pe_bm PySem.F.plainAttrs_list PySem.F.slot_list_extend PySem.F.type_list_extend mt_extS (rdAt_ok c.c h1) (pa_cons (snd_all e c.c h4).pe pa_nil (plE_star h5)) rfl (few1 h5) hl0 (plE_star h5))) fun D σ H q => ?_
    obtain ⟨G, ρ, I, q⟩ := q
    obtain ⟨ds, e1, q1⟩ := thenD (lstV_ne _ _) q
    have e1 := lstV_ok e1
    obtain ⟨a, xs, e2, ho, hr⟩ := own_lst I.F h2 e1
    refine ⟨_, e2, tyV_lst ho, ?_⟩
    refine thenE I q1 fun z v H1 G1 t1 I1 p1 q2 => ?_
    obtain ⟨es, f1, q3⟩ := thenD (itemsL_ne z) q2
    have ez : z = .lst es := by cases z <;> first | (cases f1; rfl) | cases f1
    subst ez
    obtain ⟨b, zs, rfl, s1, r1⟩ := p1.toB.lst I1.F.sub
    split at q3
    · rename_i hl
      refine ⟨a, b, xs, zs, rfl, rfl, t1.h _ _ ho, s1, by rw [hr.len, r1.len, sizeLn]; exact hl, ?_⟩
      exact wantC_nx (I1.upd h2 e1 e2 (.lst ((hr.mono t1.g).append r1))) q3
    · exact q3.elim
  · cases h
theorem cm_pop (c : CtxD C fn W cls X) {i j : Nat} {s : Stmt} (h : mC C (.pop j i) s = true) : PS X s (tCd C fn fu W cls X.K G0 H0 (.pop j i)) := by
  unfold mC at h
  split at h
  · simp only [Bool.and_eq_true, decide_eq_true_eq] at h
    obtain ⟨⟨⟨⟨⟨h0, hl0⟩, h1⟩, h2⟩, h3⟩, h4⟩ := h
    subst h0
    obtain ⟨n1, n2, n3, n4⟩ := nmAt_ok c.c h3
    refine ps_imp (ps_set n1 n2 n3 (pe_bm0 PySem.F.plainAttrs_list PySem.F.slot_list_pop PySem.F.type_list_pop mt_pop (rdAt_ok c.c h1) rfl hl0) rfl n4) fun D σ H q => ?_
    obtain ⟨G, ρ, I, q⟩ := q
    obtain ⟨ds, e1, q1⟩ := thenD (lstV_ne _ _) q
    have e1 := lstV_ok e1
    obtain ⟨a, xs, e2, ho, hr⟩ := own_lst I.F h2 e1
    obtain ⟨z, f1, q2⟩ := thenD (someR_ne _) q1
    obtain ⟨v, f2, r⟩ := hr.get (someR_ok f1)
    refine ⟨_, e2, tyV_lst ho, a, xs, v, rfl, rfl, ho, by rw [hr.len]; exact f2, ?_⟩
    have I1 := I.upd h2 e1 e2 (.lst hr.dropLast)
    exact wantC_nx (I1.setS (isOwnF h4) r) q2
  · cases h
theorem cm_clear (c : CtxD C fn W cls X) {i : Nat} {s : Stmt} (h : mC C (.clear i) s = true) : PS X s (tCd C fn fu W cls X.K G0 H0 (.clear i)) := by
  unfold mC at h
  split at h
  · simp only [Bool.and_eq_true, decide_eq_true_eq] at h
    obtain ⟨⟨⟨h0, hl0⟩, h1⟩, h2⟩ := h
    subst h0
    refine ps_imp (ps_expr (pe_bm0 PySem.F.plainAttrs_list PySem.F.slot_list_clear PySem.F.type_list_clear mt_clear (rdAt_ok c.c h1) rfl hl0)) fun D σ H q => ?_
    obtain ⟨G, ρ, I, q⟩ := q
    obtain ⟨ds, e1, q1⟩ := thenD (lstV_ne _ _) q
    have e1 := lstV_ok e1
    obtain ⟨a, xs, e2, ho, hr⟩ := own_lst I.F h2 e1
    exact ⟨_, e2, tyV_lst ho, a, xs, rfl, rfl, ho, wantC_nx (I.upd h2 e1 e2 (.lst .nil)) q1⟩
  · cases h
theorem cm_rvs (c : CtxD C fn W cls X) {i : Nat} {s : Stmt} (h : mC C (.rvs i) s = true) : PS X s (tCd C fn fu W cls X.K G0 H0 (.rvs i)) := by
  unfold mC at h
  split at h
  · simp only [Bool.and_eq_true, decide_eq_true_eq] at h
    obtain ⟨⟨⟨h0, hl0⟩, h1⟩, h2⟩ := h
    subst h0
    refine ps_imp (ps_expr (pe_bm0 PySem.F.plainAttrs_list PySem.F.slot_list_reverse PySem.F.type_list_reverse mt_reverse (rdAt_ok c.c h1) rfl hl0)) fun D σ H q => ?_
    obtain ⟨G, ρ, I, q⟩ := q
    obtain ⟨ds, e1, q1⟩ := thenD (lstV_ne _ _) q
    have e1 := lstV_ok e1
    obtain ⟨a, xs, e2, ho, hr⟩ := own_lst I.F h2 e1
    exact ⟨_, e2, tyV_lst ho, a, xs, rfl, rfl, ho, wantC_nx (I.upd h2 e1 e2 (.lst hr.reverse)) q1⟩
  · cases h
theorem cm_expr (c : CtxD C fn W cls X) {e : Ex} {s : Stmt} (h : mC C (.expr e) s = true) : PS X s (tCd C fn fu W cls X.K G0 H0 (.expr e)) := by
  unfold mC at h
  split at h
  · simp only [Bool.and_eq_true] at h
    refine ps_imp (ps_expr (snd_all e c.c h.1).pe (notLC_sw h.2)) fun D σ H q => ?_
    obtain ⟨G, ρ, I, q⟩ := q
    exact thenE I q fun z v H1 G1 t1 I1 p1 q1 => wantC_nx I1 q1
  · cases h
theorem cm_ret (c : CtxD C fn W cls X) {e : Ex} {s : Stmt} (h : mC C (.ret e) s = true) : PS X s (tCd C fn fu W cls X.K G0 H0 (.ret e)) := by
  unfold mC at h
  split at h
  · rw [Bool.and_eq_true] at h
    obtain ⟨h1, h2⟩ := h
    refine ps_imp (ps_ret (snd_all e c.c h1).pe) fun D σ H q => ?_
    obtain ⟨G, ρ, I, q⟩ := q
    cases hfr : C.fr with
    | true =>
      rw [hfr] at h2
      refine thenE I q fun z v H1 G1 t1 I1 p1 q1 => ?_
      rw [isK_ok h2] at p1
      have q1 : WantC W cls X.K C.T.isOwn C.fr G0 H0 (.ret z) G1 D := q1
      rw [hfr] at q1
      obtain ⟨a, o, e1, n, r⟩ := p1
      exact q1 v H1 G1 (Same.refl _) I1.t ⟨a, o, e1, I.t.h.free n, r⟩
    | false =>
      rw [hfr] at h2
      refine thenS h2 I q fun z v H1 G1 t1 I1 r1 q1 => ?_
      have q1 : WantC W cls X.K C.T.isOwn C.fr G0 H0 (.ret z) G1 D := q1
      rw [hfr] at q1
      exact q1 v H1 G1 (Same.refl _) I1.t r1
  · cases h
theorem cm_retM (c : CtxD C fn W cls X) {i : Nat} {s : Stmt} (h : mC C (.retM i) s = true) : PS X s (tCd C fn fu W cls X.K G0 H0 (.retM i)) := by
  unfold mC at h
  split at h
  · rw [Bool.and_eq_true] at h
    obtain ⟨h1, h2⟩ := h
    refine ps_imp (ps_ret (rdAt_ok c.c h1)) fun D σ H q => ?_
    obtain ⟨G, ρ, I, q⟩ := q
    obtain ⟨z, e1, q1⟩ := thenD (getV_ne _ _) q
    have q1 : WantC W cls X.K C.T.isOwn C.fr G0 H0 (.ret z) G D := q1
    have e1 := getV_ok e1
    cases hfr : C.fr with
    | true =>
      rw [hfr] at q1
      obtain ⟨a, o, e2, ho, hg, r⟩ := I.F.ow i z h2 e1
      exact ⟨_, e2, q1 _ H G (Same.refl _) I.t ⟨a, o, rfl, I.fr i z a h2 e1 e2, ho, hg, r⟩⟩
    | false =>
      rw [hfr] at q1
      obtain ⟨a, o, G1, e2, ho, hG, t, sg, r, I1⟩ := I.free h2 e1
      exact ⟨_, e2, q1 _ H G1 sg t r⟩
  · cases h
theorem cm_retN (c : CtxD C fn W cls X) {s : Stmt} (h : mC C .retN s = true) : PS X s (tCd C fn fu W cls X.K G0 H0 .retN) := by
  unfold mC at h
  split at h
  · refine ps_imp ps_retN fun D σ H q => ?_
    obtain ⟨G, ρ, I, q⟩ := q
    have q1 : WantC W cls X.K C.T.isOwn C.fr G0 H0 (.ret .non) G D := q
    have hfr : C.fr = false := by cases q : C.fr <;> simp_all
    rw [hfr] at q1
    exact q1 .non H G (Same.refl _) I.t (Rp.non)
  · cases h
theorem cm_raise (c : CtxD C fn W cls X) {n : Nat} {s : Stmt} (h : mC C (.raise n) s = true) : PS X s (tCd C fn fu W cls X.K G0 H0 (.raise n)) := by
  unfold mC at h
  split at h
  · simp only [Bool.and_eq_true, decide_eq_true_eq] at h
    obtain ⟨⟨⟨h1, h2⟩, h3⟩, h4⟩ := h
    obtain ⟨n1, n2, n3⟩ := nmB_ok h3
    obtain ⟨E, hv, g, x1, k1, b1, t1⟩ := (c.ex n _ h1 h4).ex
    refine ps_imp (ps_raise c.c.calm c.c.tk (pmk_own PySem.F.excBase_ValueError x1 g k1 (raises_own b1 t1) (glB_ok h2 c.c.hs) n1)) fun D σ H q => ?_
    obtain ⟨G, ρ, I, q⟩ := q
    have q1 := (show WantC W cls X.K C.T.isOwn C.fr G0 H0 (.exc n ρ) G D from q) σ H G (Same.refl _) I
    rw [hv] at q1
    exact q1
  · cases h
end
end Den
namespace Den
open PySem PySem.Spec PyProof.Rows L2

/-! ### an except suite: few expressions, few statements; slot i holds the exception -/
section
variable {C : Cfg} {fn : Nat → List D → R D} {cls : Nat → Value} {X : Cx} {P : L2.St → Prop} {oi : Option Nat} {k : Nat}
def tEh (P : L2.St → Prop) (C : Cfg) (fn : Nat → List D → R D) (cls : Nat → Value) (K : PySem.W.Frag) (x : Ex) : TE := fun σ H Q => P σ ∧ tE C.T fn W0 cls K x σ H Q
def tTh (P : L2.St → Prop) (C : Cfg) (fn : Nat → List D → R D) (cls : Nat → Value) (K : PySem.W.Frag) (x : Ex) : TT := fun σ H Q => P σ ∧ tT C.T fn W0 cls K x σ H Q
def tLh (P : L2.St → Prop) (C : Cfg) (fn : Nat → List D → R D) (cls : Nat → Value) (K : PySem.W.Frag) (s : Bool) (x : Exs) : TA := fun σ H Q => P σ ∧ tL C.T fn W0 cls K s x σ H Q
/-- where a suite stands -/
structure CtxH (C : Cfg) (X : Cx) (P : L2.St → Prop) (oi : Option Nat) (k : Nat) : Prop where
  hN : X.N = C.T.N
  nd : C.T.N.Nodup
  hs : X.env.scope = C.sc
  fnc : ∀ x, X.fn x = true
  bt : ∀ x ∈ C.T.bt, X.mg x = none
  is : ∀ i y b, oi = some i → (k, y, b) ∈ C.sb → ∃ (a : Addr) (cV : V) (R : List V → Hp → VK → Prop), (∀ σ, P σ → σ[i]? = some (some (.ref a))) ∧ CallR X (.builtin "isinstance") R ∧ (∀ p, glB C.sc y = true → nmB y = true → PE X (.Name y p) (tC cV)) ∧ ∀ H Q, Q (.bl b) H → R [.ref a, cV] H Q
  st : ∀ j v σ, some j ≠ oi → P σ → P (σ.set j v)
  un : X.A.units + 64 < cLine
structure SndH (P : L2.St → Prop) (C : Cfg) (fn : Nat → List D → R D) (cls : Nat → Value) (X : Cx) (x : Ex) (e : Expr) : Prop where
  pe : PE X e (tEh P C fn cls X.K x)
  pt : ntI e = true → PT X e (tTh P C fn cls X.K x)
  pw : isBO e = true → PW X e (tTh P C fn cls X.K x)
theorem SndH.of {x : Ex} {e : Expr} (pe : PE X e (tEh P C fn cls X.K x)) (he : ∀ whole, isTrue e X.env whole = (do let v ← whole; standAt e.pos; holding [v] (truthy v))) (hb : isBO e = false) : SndH P C fn cls X x e :=
  ⟨pe, fun _ => pt_imp (pt_val pe he) fun _ _ _ h => ⟨h.1, tT_tB h.2⟩, fun h => by rw [hb] at h; cases h⟩
theorem CtxH.blt (c : CtxH C X P oi k) {x : Str} (h : blt C.T C.sc x = true) : Gl X x ∧ X.mg x = none ∧ x ≠ "__name__" ∧ (x == ("__debug__" : Str)) = false := by
  unfold Den.blt at h
  rw [Bool.and_eq_true, Bool.and_eq_true, decide_eq_true_eq] at h
  obtain ⟨n1, n2, n3⟩ := nmB_ok h.1.2
  exact ⟨glB_ok h.1.1 c.hs, c.bt _ h.2, n3, n1⟩
theorem hsnd_var (c : CtxH C X P oi k) {i : Nat} {y : Str} {p : Pos} (h1 : C.T.N[i]? = some y) (h2 : visB C.sc y = true) (h3 : nmB y = true) : SndH P C fn cls X (.var i) (.Name y p) := by
  obtain ⟨n1, n2, n3⟩ := nmB_ok h3
  refine .of (pe_imp (pe_var (i := i) (by rw [c.hN]; exact h1) (by rw [c.hs]; exact visB_ok h2) n1 n2) fun σ H Q h => ?_) (fun _ => rfl) rfl
  obtain ⟨G, ρ, F, h⟩ := h.2
  unfold ev getV at h
  cases e : ρ[i]? with
  | none => rw [e] at h; exact h.elim
  | some o =>
    cases o with
    | none => rw [e] at h; exact h.elim
    | some z =>
      rw [e] at h
      obtain ⟨v, e1, p⟩ := F.var e
      refine ⟨v, e1, want_ok F.ok h ?_⟩
      cases ho : C.T.isOwn i with
      | true =>
        have ek : kd C.T (.var i) = .B := by show (if C.T.isOwn i = true then Kd.B else Kd.S) = _; rw [ho]; rfl
        rw [ek]
        exact p
      | false =>
        have ek : kd C.T (.var i) = .S := by show (if C.T.isOwn i = true then Kd.B else Kd.S) = _; rw [ho]; rfl
        rw [ek]
        obtain ⟨v', e2, r⟩ := F.sh i z ho e
        rw [e1] at e2
        cases e2
        exact r
theorem hsnd_cst {z : D} {e : Expr} {v : V} (hp : PE X e (tC v)) (hr : ∀ G, Rp X.K G v z) (he : ∀ whole, isTrue e X.env whole = (do let v ← whole; standAt e.pos; holding [v] (truthy v))) (hb : isBO e = false) : SndH P C fn cls X (.cst z) e := by
  refine .of (pe_imp hp fun σ H Q h => ?_) he hb
  obtain ⟨G, ρ, F, h⟩ := h.2
  exact want_ok F.ok h (hr G)
theorem hsnd_is (c : CtxH C X P oi k) {b : Bool} {e : Expr} (h : isEB C oi k b e = true) : SndH P C fn cls X (.cst (.bl b)) e := by
  unfold isEB at h
  split at h
  · rename_i x p n p3 y p4 p2
    cases oi with
    | none => cases h
    | some i =>
      simp only [Bool.and_eq_true, decide_eq_true_eq] at h
      obtain ⟨⟨⟨⟨⟨⟨⟨rfl, h2⟩, h3⟩, h4⟩, h5⟩, h6⟩, h7⟩, h8⟩ := h
      obtain ⟨g1, g2, g3, g4⟩ := c.blt h2
      obtain ⟨n1, n2, n3⟩ := nmB_ok h5
      obtain ⟨a, cV, R, hp, hR, hy, hq⟩ := c.is i y b rfl h8
      refine .of (pe_imp (pe_callB hR g1 g2 (by decide +kernel) (pa_cons (pe_var (i := i) (by rw [c.hN]; exact h3) (by rw [c.hs]; exact visB_ok h4) n1 n2) (pa_cons (hy _ h6 h7) pa_nil)) g3 g4) fun σ H Q q => ?_) (fun _ => rfl) rfl
      obtain ⟨hP, G, ρ, F, q⟩ := q
      exact ⟨_, hp σ hP, hq H Q (want_ok F.ok q (Rp.bl b))⟩
  · cases h
theorem hsnd_bin (c : CtxH C X P oi k) {o : Bop} {a b : Ex} {l r : Expr} {p : Pos} (ha : SndH P C fn cls X a l) (hb : SndH P C fn cls X b r) : SndH P C fn cls X (.bin o a b) (.BinOp l o.py r p) := by
  obtain ⟨R, hR, hq⟩ := opD_bin (X := X) o
  refine .of (pe_imp (pe_op hR ha.pe hb.pe) fun σ H Q h => ?_) (fun _ => rfl) rfl
  obtain ⟨hP, G, ρ, F, h⟩ := h
  have h : Want W0 cls X.K .S ((ev fn a ρ).bind fun x => (ev fn b ρ).bind fun y => binD o x y) G H σ Q := h
  refine ⟨hP, seqE F h fun z1 v1 H1 G1 _ t1 F1 p1 h1 => ⟨hP, seqE F1 h1 fun z2 v2 H2 G2 _ t2 F2 p2 h2 => ?_⟩⟩
  obtain ⟨z, hz, q⟩ := want_pure (binD_ne o z1 z2) h2
  exact hq G2 H2 v1 v2 z1 z2 z Q F2.ok (p1.toB.step t2) p2.toB hz q
theorem hsnd_ix (c : CtxH C X P oi k) {a b : Ex} {l r : Expr} {p : Pos} (ha : SndH P C fn cls X a l) (hb : SndH P C fn cls X b r) (hp : plE r = true) : SndH P C fn cls X (.ix a b) (.Subscript l r p) := by
  obtain ⟨R, hR, hq⟩ := ixD_ok (X := X) c.un
  refine .of (pe_imp (pe_ix hR ha.pe hb.pe (plE_ix hp)) fun σ H Q h => ?_) (fun _ => rfl) rfl
  obtain ⟨hP, G, ρ, F, h⟩ := h
  have h : Want W0 cls X.K .S ((ev fn a ρ).bind fun x => (ev fn b ρ).bind fun y => ixD x y) G H σ Q := h
  refine ⟨hP, seqE F h fun z1 v1 H1 G1 _ t1 F1 p1 h1 => ⟨hP, seqE F1 h1 fun z2 v2 H2 G2 _ t2 F2 p2 h2 => ?_⟩⟩
  obtain ⟨z, hz, q⟩ := want_pure (ixD_ne z1 z2) h2
  exact hq G2 H2 v1 v2 z1 z2 z Q F2.ok (p1.toB.step t2) p2.toB hz q
theorem hsnd_not (c : CtxH C X P oi k) {a : Ex} {l : Expr} {p : Pos} (ha : SndH P C fn cls X a l) (nl : ntI l = true) : SndH P C fn cls X (.not_ a) (.UnaryOp .Not l p) := by
  refine ⟨pe_imp (pe_not ha.pe) fun σ H Q h => ?_, fun _ => pt_imp (pt_not (ha.pt nl)) fun σ H Q h => ?_, fun h => nomatch h⟩
  · obtain ⟨hP, G, ρ, F, h⟩ := h
    refine ⟨hP, seqE F h fun z1 v1 H1 G1 _ t1 F1 p1 h1 => ?_⟩
    obtain ⟨k, rfl, h1⟩ := want_bool h1
    exact ⟨k, p1.bl, want_ok (v := .bl _) F1.ok h1 (Rp.bl _)⟩
  · obtain ⟨hP, G, ρ, F, h⟩ := h
    exact ⟨hP, seqTT F h fun k H1 G1 t1 F1 h1 => h1 H1 G1 (Stp.refl F1.ok)⟩
theorem hsnd_and (c : CtxH C X P oi k) {a b : Ex} {x y : Expr} {r : List Expr} {p : Pos} (ha : SndH P C fn cls X a x) (nx : ntI x = true)
    (hb : (∃ e, SndH P C fn cls X b e ∧ r = [] ∧ e = y ∧ ntI y = true) ∨ (∃ e, SndH P C fn cls X b e ∧ e = .BoolOp .And (y :: r) p)) : SndH P C fn cls X (.and_ a b) (.BoolOp .And (x :: y :: r) p) := by
  have hpe : PE X (.BoolOp .And (y :: r) p) (tEh P C fn cls X.K b) := by
    rcases hb with ⟨e, h, rfl, rfl, _⟩ | ⟨e, h, rfl⟩
    · exact pe_one h.pe
    · exact h.pe
  have hpw : PW X (.BoolOp .And (y :: r) p) (tTh P C fn cls X.K b) := by
    rcases hb with ⟨e, h, rfl, rfl, n⟩ | ⟨e, h, rfl⟩
    · exact pw_and1 (h.pt n)
    · exact h.pw rfl
  have w : PW X (.BoolOp .And (x :: y :: r) p) (tTh P C fn cls X.K (.and_ a b)) := by
    refine pw_imp (pw_and (ha.pt nx) hpw) fun σ H Q h => ?_
    obtain ⟨hP, G, ρ, F, h⟩ := h
    refine ⟨hP, seqTT F h fun k H1 G1 t1 F1 h1 => ?_⟩
    cases k with
    | true =>
      rw [if_pos rfl]
      exact ⟨hP, seqTT F1 h1 fun k2 H2 G2 t2 F2 h2 => h2 H2 G2 (Stp.refl F2.ok)⟩
    | false =>
      rw [if_neg Bool.false_ne_true]
      exact h1 H1 G1 (Stp.refl F1.ok)
  refine ⟨pe_imp (pe_and ha.pe hpe) fun σ H Q h => ?_, fun _ => w.pt, fun _ => w⟩
  obtain ⟨hP, G, ρ, F, h⟩ := h
  refine ⟨hP, seqE F h fun z1 v1 H1 G1 _ t1 F1 p1 h1 => ?_⟩
  obtain ⟨k, rfl, h1⟩ := want_bool h1
  refine ⟨k, p1.bl, ?_⟩
  cases k with
  | true =>
    rw [if_pos rfl]
    refine ⟨hP, seqE F1 h1 fun z2 v2 H2 G2 _ t2 F2 p2 h2 => ?_⟩
    obtain ⟨k2, rfl, h2⟩ := want_bool h2
    rw [p2.bl]
    exact want_ok (v := .bl _) F2.ok h2 (Rp.bl _)
  | false =>
    rw [if_neg Bool.false_ne_true]
    exact want_ok (v := .bl _) F1.ok h1 (Rp.bl _)
theorem hpa_none (s : Bool) : PA X [] (tLh P C fn cls X.K s .nil) := pa_imp (pa_none (T := C.T) (fn := fn) (W := W0) (cls := cls) s) fun σ H Q h => h.2
theorem hpa_some {s : Bool} {a : Ex} {r : Exs} {e : Expr} {es : List Expr} (ha : SndH P C fn cls X a e) (hp : plE e = true) (hn : s = true → nB C.T a = true) (hr : PA X es (tLh P C fn cls X.K s r)) : PA X (e :: es) (tLh P C fn cls X.K s (.cons a r)) := by
  refine pa_imp (pa_cons ha.pe hr (plE_star hp)) fun σ H Q h => ?_
  obtain ⟨hP, G, ρ, F, h⟩ := h
  have h' : WantL W0 cls X.K s ((ev fn a ρ).bind fun x => (evs fn r ρ).bind fun xs => .ok (x :: xs)) G H σ Q := h
  refine ⟨hP, G, ρ, F, ?_⟩
  cases e1 : ev fn a ρ with
  | exc c' => rw [e1] at h'; exact h'
  | bad => rw [e1] at h'; exact h'
  | ok z =>
    rw [e1] at h'
    intro v H1 G1 t1 p1
    have go : ∀ G1', Stp G H G1' H1 → (if s then Rp X.K G1' v z else PB X.K G1' H1 v z) → tLh P C fn cls X.K s r σ H1 fun xs H2 => Q (v :: xs) H2 := fun G1' t1 p1 => by
      have F1 := F.step t1
      have h2 := WantL.shift t1 h'
      refine ⟨hP, G1', ρ, F1, ?_⟩
      cases e2 : evs fn r ρ with
      | exc c' => rw [e2] at h2; exact h2
      | bad => rw [e2] at h2; exact h2
      | ok zs =>
        rw [e2] at h2
        intro vs H2 G2 t2 p2
        refine h2 (v :: vs) H2 G2 t2 ?_
        cases s
        · exact .cons (PB.step t2 p1) p2
        · exact .cons (Rp.mono t2.g p1) p2
    cases s with
    | false => exact go G1 t1 p1.toB
    | true =>
      obtain ⟨G3, t3, r3⟩ := p1.toS (nB_ne (hn rfl)) t1
      exact go G3 t3 r3
theorem hsnd_tup (c : CtxH C X P oi k) {es : Exs} {l : List Expr} {n : Nat} {p : Pos} (ha : PA X l (tLh P C fn cls X.K true es)) (hl : l.length ≤ Line) (hlen : ∀ ρ zs, evs fn es ρ = .ok zs → zs.length = l.length) : SndH P C fn cls X (.tup es) (.Tuple l n p) := by
  refine .of (pe_imp (pe_tup ha) fun σ H Q h => ?_) (fun _ => rfl) rfl
  obtain ⟨hP, G, ρ, F, h⟩ := h
  refine ⟨hP, seqL F h fun zs vs H1 G1 e t1 F1 p1 h1 => ?_⟩
  have p1 : RpL X.K G1 vs zs := p1
  have hz := hlen ρ zs e
  refine ⟨by rw [p1.len, hz, sizeLn]; exact hl, ?_⟩
  exact newS F1.ok (fun v H' G' t r => h1 v H' G' t r) fun a ha => .tup (SqT.of upd_same) (p1.mono (same_upd ha))
theorem hsnd_lst (c : CtxH C X P oi k) {es : Exs} {l : List Expr} {p : Pos} (ha : PA X l (tLh P C fn cls X.K true es)) (hl : l.length ≤ Line) (hlen : ∀ ρ zs, evs fn es ρ = .ok zs → zs.length = l.length) : SndH P C fn cls X (.lst es) (.List l p) := by
  refine .of (pe_imp (pe_lst ha) fun σ H Q h => ?_) (fun _ => rfl) rfl
  obtain ⟨hP, G, ρ, F, h⟩ := h
  refine ⟨hP, seqL F h fun zs vs H1 G1 e t1 F1 p1 h1 => ?_⟩
  have p1 : RpL X.K G1 vs zs := p1
  have hz := hlen ρ zs e
  refine ⟨by rw [p1.len, hz, sizeLn]; exact hl, ?_⟩
  exact newT F1.ok (o := .lst _) trivial (fun v H' G' t r => h1 v H' G' t r) (.lst p1)
theorem evsh_len : ∀ {es : Exs} {l : List Expr} {s : Bool} {ρ : Env} {zs : List D}, mHl C oi k s es l = true → evs fn es ρ = .ok zs → zs.length = l.length
  | .nil, l, s, ρ, zs, h, e => by
    cases l with
    | nil => cases e; rfl
    | cons _ _ => cases h
  | .cons a r, l, s, ρ, zs, h, e => by
    cases l with
    | nil => cases h
    | cons x es =>
      unfold mHl at h
      rw [Bool.and_eq_true] at h
      unfold evs at e
      obtain ⟨z, e1, e2⟩ := bind_okE e
      obtain ⟨ws, e3, e4⟩ := bind_okE e2
      cases e4
      rw [List.length_cons, List.length_cons, evsh_len h.2 e3]
theorem hsnd_int (c : CtxH C X P oi k) {es : Exs} {l : Expr} {p p2 : Pos} (hb : blt C.T C.sc "int" = true) (ha : PA X [l] (tLh P C fn cls X.K false es)) (hp : plE l = true) : SndH P C fn cls X (.bi .int_ es) (.Call (.Name "int" p) [l] [] p2) := by
  obtain ⟨g1, g2, g3, g4⟩ := c.blt hb
  refine .of (pe_imp (pe_callTy call_int1 g1 g2 (by decide +kernel) ha g3 g4 (plE_star hp) rfl) fun σ H Q h => ?_) (fun _ => rfl) rfl
  obtain ⟨hP, G, ρ, F, h⟩ := h
  have h : Want W0 cls X.K .S ((evs fn es ρ).bind fun ds => biD .int_ ds) G H σ Q := h
  refine ⟨hP, seqL F h fun zs vs H1 G1 e t1 F1 p1 h1 => ?_⟩
  have p1 : PBL X.K G1 H1 vs zs := p1
  obtain ⟨z, hz, q⟩ := want_pure (biD_ne .int_ zs) h1
  match zs, hz with
  | [.int i], hz =>
    cases hz
    obtain ⟨v, rfl, pv⟩ := p1.one
    rw [pv.int]
    exact .inl ⟨i, rfl, q _ _ _ (Stp.refl F1.ok) (Rp.int _)⟩
  | [.bl i], hz =>
    cases hz
    obtain ⟨v, rfl, pv⟩ := p1.one
    rw [pv.bl]
    exact .inr ⟨i, rfl, q _ _ _ (Stp.refl F1.ok) (Rp.int _)⟩
mutual
theorem hsnd_all : ∀ (x : Ex) (c : CtxH C X P oi k) {e : Expr}, mH C oi k x e = true → SndH P C fn cls X x e
  | .cst z, c, e, h => by
    have h : (mE C.T (.cst z) C.sc e || isEZ C oi k z e) = true := by unfold mH at h; exact h
    rw [Bool.or_eq_true] at h
    rcases h with h | h
    · cases e with
      | Constant y j p =>
        cases z with
        | non =>
          cases y with
          | none => exact hsnd_cst pe_non (fun _ => .non) (fun _ => rfl) rfl
          | _ => cases h
        | bl b =>
          cases y with
          | bool k =>
            have e : b = k := of_decide_eq_true h
            subst e
            exact hsnd_cst pe_bl (fun _ => .bl b) (fun _ => rfl) rfl
          | _ => cases h
        | int i =>
          cases y with
          | int k =>
            have e : i = k := of_decide_eq_true h
            subst e
            exact hsnd_cst pe_int (fun _ => .int i) (fun _ => rfl) rfl
          | _ => cases h
        | str s =>
          cases y with
          | str k =>
            have e : s = k := of_decide_eq_true h
            subst e
            exact hsnd_cst pe_str (fun _ => .str s) (fun _ => rfl) rfl
          | _ => cases h
        | _ => cases y <;> cases h
      | _ => cases h
    · cases z with
      | bl b => exact hsnd_is c h
      | _ => cases h
  | .var i, c, e, h => by
    have h : mE C.T (.var i) C.sc e = true := by unfold mH at h; exact h
    cases e with
    | Name x p =>
      simp only [mE, Bool.and_eq_true, decide_eq_true_eq] at h
      exact hsnd_var c h.1.1 h.1.2 h.2
    | _ => cases h
  | .and_ a b, c, e, h => by
    unfold mH at h
    split at h
    · rename_i x y r pos
      simp only [Bool.and_eq_true] at h
      obtain ⟨⟨⟨h1, h2⟩, h3⟩, h4⟩ := h
      refine hsnd_and c (hsnd_all a c h1) h3 ?_
      cases r with
      | nil => exact .inl ⟨y, hsnd_all b c h2, rfl, rfl, h4⟩
      | cons z r' => exact .inr ⟨_, hsnd_all b c h2, rfl⟩
    · cases h
  | .not_ a, c, e, h => by
    unfold mH at h
    split at h
    · simp only [Bool.and_eq_true, decide_eq_true_eq] at h
      obtain ⟨⟨rfl, h2⟩, h3⟩ := h
      exact hsnd_not c (hsnd_all a c h2) h3
    · cases h
  | .bin o a b, c, e, h => by
    unfold mH at h
    split at h
    · simp only [Bool.and_eq_true, decide_eq_true_eq] at h
      obtain ⟨⟨rfl, h2⟩, h3⟩ := h
      exact hsnd_bin c (hsnd_all a c h2) (hsnd_all b c h3)
    · cases h
  | .bi b es, c, e, h => by
    unfold mH at h
    split at h
    · simp only [Bool.and_eq_true, decide_eq_true_eq] at h
      obtain ⟨⟨⟨h1, rfl⟩, h3⟩, h4⟩ := h
      cases b with
      | int_ =>
        have hp : plE _ = true := mHl_pl h4 _ (List.mem_singleton.mpr rfl)
        exact hsnd_int c h3 (hsnds_all es c h4) hp
      | _ => cases h1
    · cases h
  | .lst es, c, e, h => by
    unfold mH at h
    split at h
    · simp only [Bool.and_eq_true, decide_eq_true_eq] at h
      exact hsnd_lst c (hsnds_all es c h.1) h.2 fun ρ zs e => evsh_len h.1 e
    · cases h
  | .tup es, c, e, h => by
    unfold mH at h
    split at h
    · simp only [Bool.and_eq_true, decide_eq_true_eq] at h
      exact hsnd_tup c (hsnds_all es c h.1) h.2 fun ρ zs e => evsh_len h.1 e
    · cases h
  | .ix a b, c, e, h => by
    unfold mH at h
    split at h
    · simp only [Bool.and_eq_true] at h
      exact hsnd_ix c (hsnd_all a c h.1.1) (hsnd_all b c h.1.2) h.2
    · cases h
  | .gint _ _, c, e, h => by unfold mH at h; cases h
  | .neg _, c, e, h => by unfold mH at h; cases h
  | .cmp _ _ _, c, e, h => by unfold mH at h; cases h
  | .isN _, c, e, h => by unfold mH at h; cases h
  | .notN _, c, e, h => by unfold mH at h; cases h
  | .chain _ _ _ _ _, c, e, h => by unfold mH at h; cases h
  | .or_ _ _, c, e, h => by unfold mH at h; cases h
  | .ite _ _ _, c, e, h => by unfold mH at h; cases h
  | .slF _ _, c, e, h => by unfold mH at h; cases h
  | .slT _ _, c, e, h => by unfold mH at h; cases h
  | .slB _ _ _, c, e, h => by unfold mH at h; cases h
  | .call _ _, c, e, h => by unfold mH at h; cases h
  | .callB _ _, c, e, h => by unfold mH at h; cases h
  | .isi _ _, c, e, h => by unfold mH at h; cases h
  | .comp _ _ _ _, c, e, h => by unfold mH at h; cases h
  | .compIf _ _ _ _ _, c, e, h => by unfold mH at h; cases h
  | .sset _, c, e, h => by unfold mH at h; cases h
  | .lzip _, c, e, h => by unfold mH at h; cases h
  | .lrng _ _, c, e, h => by unfold mH at h; cases h
  | .lrev _, c, e, h => by unfold mH at h; cases h
theorem hsnds_all : ∀ (es : Exs) {s : Bool} (c : CtxH C X P oi k) {l : List Expr}, mHl C oi k s es l = true → PA X l (tLh P C fn cls X.K s es)
  | .nil, s, c, l, h => by
    cases l with
    | nil => exact hpa_none s
    | cons _ _ => cases h
  | .cons a r, s, c, l, h => by
    cases l with
    | nil => cases h
    | cons e es =>
      unfold mHl at h
      simp only [Bool.and_eq_true] at h
      obtain ⟨⟨⟨h1, h2⟩, h3⟩, h4⟩ := h
      exact hpa_some (hsnd_all a c h1) h2 (fun q => by subst q; simpa using h3) (hsnds_all r c h4)
theorem mHl_pl : ∀ {es : Exs} {l : List Expr} {s : Bool}, mHl C oi k s es l = true → ∀ e ∈ l, plE e = true
  | .nil, l, s, h => by
    cases l with
    | nil => simp
    | cons _ _ => cases h
  | .cons a r, l, s, h => by
    cases l with
    | nil => cases h
    | cons x es =>
      unfold mHl at h
      rw [Bool.and_eq_true, Bool.and_eq_true, Bool.and_eq_true] at h
      intro e he
      rcases List.mem_cons.mp he with q | q
      · rw [q]; exact h.1.1.2
      · exact mHl_pl h.2 e q
end
end
end Den
namespace Den
open PySem PySem.Spec PyProof.Rows L2
section
variable {C : Cfg} {fn : Nat → List D → R D} {fu : Nat} {W : WX} {cls : Nat → Value} {X : Cx} {G0 H0 : Hp} {P : L2.St → Prop} {oi : Option Nat} {k : Nat}
/-- the ends of a suite's statement -/
def pD (P : L2.St → Prop) (D : Ends) : Ends := { D with nx := fun σ' H' => P σ' → D.nx σ' H' }
def tCh (P : L2.St → Prop) (C : Cfg) (fn : Nat → List D → R D) (cls : Nat → Value) (K : PySem.W.Frag) (G0 H0 : Hp) (f : Env → O) : TS := fun D σ H => P σ ∧ ∃ G ρ, SI K C.T.isOwn G0 H0 G ρ σ H ∧ WantC W0 cls K C.T.isOwn C.fr G0 H0 (f ρ) G (pD P D)
theorem hnm (c : CtxH C X P oi k) {i : Nat} {x : Str} (h : nmAt C.T C.sc i x = true) : X.N.Nodup ∧ X.N[i]? = some x ∧ L2.Loc X.env.scope x ∧ (X.fn x = true ∨ X.env.scope.names.lookup x = some .local) := by
  unfold nmAt at h
  rw [Bool.and_eq_true, decide_eq_true_eq] at h
  obtain ⟨l1, _⟩ := locB_ok h.2
  exact ⟨by rw [c.hN]; exact c.nd, by rw [c.hN]; exact h.1, by rw [c.hs]; exact l1, .inl (c.fnc x)⟩
theorem hrd (c : CtxH C X P oi k) {i : Nat} {x : Str} {p : Pos} (h : rdAt C.T C.sc i x = true) : PE X (.Name x p) (tVar i) := by
  unfold rdAt at h
  rw [Bool.and_eq_true, Bool.and_eq_true, decide_eq_true_eq] at h
  obtain ⟨n1, n2, n3⟩ := nmB_ok h.2
  exact pe_var (by rw [c.hN]; exact h.1.1) (by rw [c.hs]; exact visB_ok h.1.2) n1 n2
theorem hc_all (c : CtxH C X P oi k) {x : Cmd} {s : Stmt} (h : mHc C oi k x s = true) : PS X s (tCh P C fn cls X.K G0 H0 (evC fn fu x)) := by
  cases x with
  | set j e =>
    dsimp only [mHc] at h
    split at h
    · simp only [Bool.and_eq_true, decide_eq_true_eq] at h
      obtain ⟨⟨⟨⟨⟨h1, h2⟩, h3⟩, h4⟩, h5⟩, h6⟩ := h
      obtain ⟨n1, n2, n3, n4⟩ := hnm c h1
      refine ps_imp (ps_set n1 n2 n3 (hsnd_all (fn := fn) (cls := cls) e c h5).pe (notLC_sw h6) n4) fun D σ H q => ?_
      obtain ⟨hP, G, ρ, I, q⟩ := q
      exact ⟨hP, thenS h4 I q fun z v H1 G1 t1 I1 r1 q1 => (show pD P D |>.nx _ _ from wantC_nx (I1.setS (isOwnF h2) r1) q1) (c.st j _ σ h3 hP)⟩
    · cases h
  | own j e =>
    dsimp only [mHc] at h
    split at h
    · simp only [Bool.and_eq_true, decide_eq_true_eq] at h
      obtain ⟨⟨⟨⟨⟨h1, h2⟩, h3⟩, h4⟩, h5⟩, h6⟩ := h
      obtain ⟨n1, n2, n3, n4⟩ := hnm c h1
      refine ps_imp (ps_set n1 n2 n3 (hsnd_all (fn := fn) (cls := cls) e c h5).pe (notLC_sw h6) n4) fun D σ H q => ?_
      obtain ⟨hP, G, ρ, I, q⟩ := q
      refine ⟨hP, thenE I q fun z v H1 G1 t1 I1 p1 q1 => ?_⟩
      rw [isK_ok h4] at p1
      obtain ⟨a, o, rfl, n, ho, hg, r⟩ := p1
      exact (show pD P D |>.nx _ _ from wantC_nx (I.setO h2 t1 n ho hg r) q1) (c.st j _ σ h3 hP)
    · cases h
  | app j e =>
    dsimp only [mHc] at h
    split at h
    · simp only [Bool.and_eq_true, decide_eq_true_eq] at h
      obtain ⟨⟨⟨⟨⟨⟨h0, hl0⟩, h1⟩, h2⟩, h3⟩, h4⟩, h5⟩ := h
      subst h0
      refine ps_imp (ps_expr (pe_bm PySem.F.plainAttrs_list PySem.F.slot_list_append PySem.F.type_list_append mt_append (hrd c h1) (pa_cons (hsnd_all (fn := fn) (cls := cls) e c h4).pe pa_nil (plE_star h5)) rfl (few1 h5) hl0 (plE_star h5))) fun D σ H q => ?_
      obtain ⟨hP, G, ρ, I, q⟩ := q
      obtain ⟨ds, e1, q1⟩ := thenD (lstV_ne _ _) q
      have e1 := lstV_ok e1
      obtain ⟨a, xs, e2, ho, hr⟩ := own_lst I.F h2 e1
      refine ⟨_, e2, tyV_lst ho, hP, ?_⟩
      refine thenS h3 I q1 fun z v H1 G1 t1 I1 r1 q2 => ?_
      split at q2
      · rename_i hl
        refine ⟨a, xs, v, rfl, rfl, t1.h _ _ ho, by rw [hr.len, sizeLn]; exact hl, ?_⟩
        exact (show pD P D |>.nx _ _ from wantC_nx (I1.upd h2 e1 e2 (.lst ((hr.mono t1.g).append (.cons r1 .nil)))) q2) hP
      · exact q2.elim
    · cases h
  | ret e =>
    dsimp only [mHc] at h
    split at h
    · rw [Bool.and_eq_true] at h
      obtain ⟨h1, h2⟩ := h
      refine ps_imp (ps_ret (hsnd_all (fn := fn) (cls := cls) e c h1).pe) fun D σ H q => ?_
      obtain ⟨hP, G, ρ, I, q⟩ := q
      cases hfr : C.fr with
      | true =>
        rw [hfr] at h2
        refine ⟨hP, thenE I q fun z v H1 G1 t1 I1 p1 q1 => ?_⟩
        rw [isK_ok h2] at p1
        have q1 : WantC W0 cls X.K C.T.isOwn C.fr G0 H0 (.ret z) G1 (pD P D) := q1
        rw [hfr] at q1
        obtain ⟨a, o, e1, n, r⟩ := p1
        exact q1 v H1 G1 (Same.refl _) I1.t ⟨a, o, e1, I.t.h.free n, r⟩
      | false =>
        rw [hfr] at h2
        refine ⟨hP, thenS h2 I q fun z v H1 G1 t1 I1 r1 q1 => ?_⟩
        have q1 : WantC W0 cls X.K C.T.isOwn C.fr G0 H0 (.ret z) G1 (pD P D) := q1
        rw [hfr] at q1
        exact q1 v H1 G1 (Same.refl _) I1.t r1
    · cases h
  | _ => cases h
theorem hs_all (c : CtxH C X P oi k) : ∀ (x : Cmds) {l : List Stmt}, mHs C oi k x l = true → PSs X l (tCh P C fn cls X.K G0 H0 (evCs fn fu x))
  | .nil, l, h => by
    cases l with
    | cons _ _ => cases h
    | nil =>
      refine pss_imp pss_nil fun D σ H q => ?_
      obtain ⟨hP, G, ρ, I, q⟩ := q
      exact (show pD P D |>.nx _ _ from wantC_nx I q) hP
  | .cons x r, l, h => by
    cases l with
    | nil => cases h
    | cons s ss =>
      unfold mHs at h
      simp only [Bool.and_eq_true] at h
      refine pss_imp (pss_cons (hc_all (fn := fn) (fu := fu) (cls := cls) (G0 := G0) (H0 := H0) c h.1) (hs_all c r h.2)) fun D σ H q => ?_
      obtain ⟨hP, G, ρ, I, q⟩ := q
      refine ⟨hP, G, ρ, I, ?_⟩
      have q : WantC W0 cls X.K C.T.isOwn C.fr G0 H0 (seqO (evC fn fu x ρ) fun ρ' => evCs fn fu r ρ') G (pD P D) := q
      cases e : evC fn fu x ρ with
      | nx ρ4 => rw [e] at q; exact fun σ' H' G'' s' I' hP' => ⟨hP', G'', ρ4, I', WantC.shift s' q⟩
      | cont ρ4 => rw [e] at q; exact q
      | brk ρ4 => rw [e] at q; exact q
      | ret z => rw [e] at q; exact q
      | exc c' ρ4 => rw [e] at q; exact q
      | bad => rw [e] at q; exact q
  | .shr i r, l, h => by cases h
theorem hd_find {x : Str} {l : List Stmt} : ∀ {hs : Hds}, mHd C oi x hs l = true → (∀ ρ, evHs fn fu hs k ρ = .bad) ∨ ∃ h, (k, x) ∈ C.ct ∧ mHs C oi k h l = true ∧ ∀ ρ, evHs fn fu hs k ρ = noxO (evCs fn fu h ρ)
  | .nil, _ => .inl fun _ => rfl
  | .cons j h r, hm => by
    unfold mHd at hm
    simp only [Bool.and_eq_true, decide_eq_true_eq] at hm
    by_cases e : k = j
    · subst e
      exact .inr ⟨h, hm.1.1, hm.1.2, fun ρ => by unfold evHs; rw [if_pos rfl]⟩
    · have step : ∀ ρ, evHs fn fu (.cons j h r) k ρ = evHs fn fu r k ρ := fun ρ => by conv => lhs; unfold evHs; rw [if_neg e]
      rcases hd_find (hs := r) hm.2 with q | ⟨h', q1, q2, q3⟩
      · exact .inl fun ρ => by rw [step, q]
      · exact .inr ⟨h', q1, q2, fun ρ => by rw [step, q3]⟩
theorem SI.unset {K : PySem.W.Frag} {own : Nat → Bool} {G H : Hp} {ρ : Env} {σ : L2.St} (I : SI K own G0 H0 G ρ σ H) (i : Nat) (o : Option V) : SI K own G0 H0 G (ρ.set i none) (σ.set i o) H :=
  ⟨I.F.unset o, I.t, fun j z a hj h1 h2 => by
    rcases set_get h1 with ⟨_, h1⟩ | ⟨n, h1⟩
    · cases h1
    · rw [List.getElem?_set_ne n] at h2
      exact I.fr j z a hj h1 h2⟩
theorem cls_pe {X : Cx} {sc : Scope} {y : Str} {cv : Value} {cV : V} (hs : X.env.scope = sc) (h : ClsV X.mg y cv cV) (h1 : glB sc y = true) (h2 : nmB y = true) (p : Pos) : PE X (.Name y p) (tC cV) := by
  obtain ⟨n1, n2, n3⟩ := nmB_ok h2
  rcases h with ⟨A, hm, rfl, rfl⟩ | ⟨t, hm, hb, _, rfl, rfl⟩
  · exact pe_glob (glB_ok h1 hs) hm (v := .ref A) rfl n1
  · exact pe_bltn (glB_ok h1 hs) hm hb rfl n3 n1
theorem cls_rel {mg : Str → Option Value} {y : Str} {cv : Value} {cV : V} (h : ClsV mg y cv cV) : ∀ u, RelV cV u → u = cv := by
  rcases h with ⟨A, hm, rfl, rfl⟩ | ⟨t, hm, hb, _, rfl, rfl⟩
  · intro u r; exact r
  · intro u r; exact r
/-- a suite's context, the exception at a -/
theorem ctxH_as (c : CtxD C fn W cls X) {i : Nat} {a : Addr} {oe : Obj} {pn : List (Addr × Obj)} (hz : Zc (cls k) none oe) (hf : ∃ vs, oe.data = .fields vs) :
    CtxH C (X.suite a ((a, oe) :: pn)) (fun σ => σ[i]? = some (some (.ref a))) (some i) k where
  hN := c.c.hN
  nd := c.c.nd
  hs := c.c.hs
  fnc := c.c.fnc rfl
  bt := c.c.bt
  is := fun j y b hj hm => by
    cases hj
    obtain ⟨D, cv, cV, e, ec, hc, kit⟩ := (c.sb _ hm).ex
    rw [e] at hz
    exact ⟨a, cV, rIsE X.K D a, fun _ h => h, call_isE ec hz hf, fun p h1 h2 => cls_pe (X := X.suite a ((a, oe) :: pn)) c.c.hs hc h1 h2 p, fun H Q q => ⟨cV, cv, b, rfl, cls_rel hc, kit, q⟩⟩
  st := fun j v σ hj h => by
    show (σ.set j v)[i]? = _
    rw [List.getElem?_set_ne (fun e => hj (by rw [e]))]
    exact h
  un := c.c.un
theorem ctxH_no (c : CtxD C fn W cls X) {a : Addr} {pn : List (Addr × Obj)} : CtxH C (X.suite a pn) (fun _ => True) none k where
  hN := c.c.hN
  nd := c.c.nd
  hs := c.c.hs
  fnc := c.c.fnc rfl
  bt := c.c.bt
  is := fun j y b hj hm => by cases hj
  st := fun j v σ hj h => h
  un := c.c.un
theorem ctxD_tr (c : CtxD C fn W cls X) {W' : WX} {pn : List (Addr × Obj)} {xe : Value → Shared → Prop} (tk : Takes (X.tr pn xe) W') (po : PassesOwn (model X.prog X.w) X.A X.env xe) : CtxD C fn W' cls (X.tr pn xe) :=
  ⟨⟨c.c.hN, c.c.nd, c.c.hs, c.c.calm, c.c.fnc, c.c.bt, c.c.cs, c.c.un, tk, c.c.fns⟩, c.kind, po, c.ex, c.st, c.fm, c.sb, c.ct⟩
theorem cm_try (c : CtxD C fn W cls X) {b : Cmds} {i : Option Nat} {cc : Nat} {hs : Hds} {s : Stmt} (h : mC C (.try_ b i cc hs) s = true)
    (hb : ∀ (W : WX) (X' : Cx), CtxD C fn W cls X' → ∀ l, mCs C b l = true → PSs X' l (tCm C fn fu W cls X'.K G0 H0 (evCs fn fu b))) : PS X s (tCd C fn fu W cls X.K G0 H0 (.try_ b i cc hs)) := by
  unfold mC at h
  split at h
  · rename_i body x np n s0 ss p1 p2
    simp only [Bool.and_eq_true, decide_eq_true_eq] at h
    obtain ⟨⟨⟨⟨⟨⟨h1, h2⟩, h3⟩, h4⟩, h5⟩, h6⟩, h7⟩ := h
    obtain ⟨A, hv, hmg, _⟩ := (c.ex cc x h2 h5).ex
    obtain ⟨n1, n2, n3⟩ := nmB_ok h4
    have hN : Names X x (cls cc) := ⟨glB_ok h3 c.c.hs, n1, .inl (by rw [hv]; exact hmg)⟩
    have exm : ∀ {k : Nat}, (k, x) ∈ C.ct → PySem.W.exmOne X.K (cls k) (cls cc) = some true := fun {k} hm => by
      obtain ⟨D, A', e1, e2, e3⟩ := (c.ct _ hm).ex
      rw [hmg] at e2
      cases e2
      rw [hv, e1]
      exact e3
    have body_ : ∀ (Wn : WX) (pn : List (Addr × Obj)) (xe : Value → Shared → Prop), Takes (X.tr pn xe) Wn → PassesOwn (model X.prog X.w) X.A X.env xe → PSs (X.tr pn xe) body (tCm C fn fu Wn cls X.K G0 H0 (evCs fn fu b)) :=
      fun Wn pn xe tk po => hb Wn (X.tr pn xe) (ctxD_tr c tk po) body h1
    cases i with
    | some i =>
      cases n with
      | none => cases h6
      | some n =>
        unfold mAs at h6
        simp only [Bool.and_eq_true, decide_eq_true_eq] at h6
        obtain ⟨⟨h8, h9⟩, h10⟩ := h6
        have hloc : X.env.kindOf n = some .local := by
          unfold PySem.Env.kindOf
          rw [c.c.hs]
          split at h10
          · assumption
          · cases h10
        refine ps_imp (ps_try_as (i := i) (tb := fun Wn => tCm C fn fu Wn cls X.K G0 H0 (evCs fn fu b))
          (ts := fun a cv d D σ H => ∃ k h, cv = cls k ∧ d = none ∧ mHs C (some i) k h (s0 :: ss) = true ∧ tCh (fun σ => σ[i]? = some (some (.ref a))) C fn cls X.K G0 H0 (evCs fn fu h) D σ H)
          c.st c.fm (by rw [c.c.hN]; exact c.c.nd) (by rw [c.c.hN]; exact h8) hloc hN c.c.tk body_ (fun a oe cv d pn hz hf => pss_ex fun σ H D q => ?_)) fun D σ H q => ?_
        · obtain ⟨k, h, rfl, rfl, hm, q⟩ := q
          exact ⟨_, hs_all (fn := fn) (fu := fu) (cls := cls) (G0 := G0) (H0 := H0) (ctxH_as c hz hf) h hm, q⟩
        · obtain ⟨G, ρ, I, q⟩ := q
          refine ⟨G, ρ, I, ?_⟩
          have q : WantC W cls X.K C.T.isOwn C.fr G0 H0 (match evCs fn fu b ρ with
            | .exc k ρ' => if hasOp (some i) ρ' then wipeOo (some i) (evHs fn fu hs k (killOp (some i) ρ')) else .bad
            | o => o) G D := q
          cases e : evCs fn fu b ρ with
          | nx ρ4 => rw [e] at q; exact q
          | cont ρ4 => rw [e] at q; exact q
          | brk ρ4 => rw [e] at q; exact q
          | ret z => rw [e] at q; exact q
          | bad => rw [e] at q; exact q
          | exc k ρ' =>
            rw [e] at q
            intro σ' H' G' sg I'
            have q : WantC W cls X.K C.T.isOwn C.fr G0 H0 (if decide (i < ρ'.length) then wipeO i (evHs fn fu hs k (ρ'.set i none)) else .bad) G' D := WantC.shift sg q
            split at q
            · rename_i hlt
              have hlt := of_decide_eq_true hlt
              rcases hd_find (fn := fn) (fu := fu) (k := k) h7 with hbad | ⟨h, hm, hmh, heq⟩
              · rw [hbad] at q; exact q.elim
              · refine ⟨true, exm hm, fun _ a na => ⟨k, h, rfl, rfl, hmh, ?_, G', ρ'.set i none, I'.unset i _, ?_⟩, fun z => nomatch z⟩
                · exact List.getElem?_set_self (by rw [← I'.F.len]; exact hlt)
                · rw [heq] at q
                  cases e2 : evCs fn fu h (ρ'.set i none) with
                  | nx ρ4 => rw [e2] at q; exact fun σ2 H2 G2 s2 I2 _ => q _ _ _ s2 (I2.unset i none)
                  | cont ρ4 => rw [e2] at q; exact fun σ2 H2 G2 s2 I2 => q _ _ _ s2 (I2.unset i none)
                  | brk ρ4 => rw [e2] at q; exact fun σ2 H2 G2 s2 I2 => q _ _ _ s2 (I2.unset i none)
                  | ret z => rw [e2] at q; exact q
                  | bad => rw [e2] at q; exact q.elim
                  | exc _ _ => rw [e2] at q; exact q.elim
            · exact q.elim
    | none =>
      cases n with
      | some n => cases h6
      | none =>
        refine ps_imp (ps_try_only (tb := fun Wn => tCm C fn fu Wn cls X.K G0 H0 (evCs fn fu b))
          (ts := fun a cv d D σ H => ∃ k h, cv = cls k ∧ d = none ∧ mHs C none k h (s0 :: ss) = true ∧ tCh (fun _ => True) C fn cls X.K G0 H0 (evCs fn fu h) D σ H)
          c.st c.fm hN c.c.tk body_ (fun a oe cv d pn hz hf => pss_ex fun σ H D q => ?_)) fun D σ H q => ?_
        · obtain ⟨k, h, rfl, rfl, hm, q⟩ := q
          exact ⟨_, hs_all (fn := fn) (fu := fu) (cls := cls) (G0 := G0) (H0 := H0) (ctxH_no c) h hm, q⟩
        · obtain ⟨G, ρ, I, q⟩ := q
          refine ⟨G, ρ, I, ?_⟩
          have q : WantC W cls X.K C.T.isOwn C.fr G0 H0 (match evCs fn fu b ρ with
            | .exc k ρ' => if hasOp none ρ' then wipeOo none (evHs fn fu hs k (killOp none ρ')) else .bad
            | o => o) G D := q
          cases e : evCs fn fu b ρ with
          | nx ρ4 => rw [e] at q; exact q
          | cont ρ4 => rw [e] at q; exact q
          | brk ρ4 => rw [e] at q; exact q
          | ret z => rw [e] at q; exact q
          | bad => rw [e] at q; exact q
          | exc k ρ' =>
            rw [e] at q
            intro σ' H' G' sg I'
            have q : WantC W cls X.K C.T.isOwn C.fr G0 H0 (evHs fn fu hs k ρ') G' D := WantC.shift sg q
            rcases hd_find (fn := fn) (fu := fu) (k := k) h7 with hbad | ⟨h, hm, hmh, heq⟩
            · rw [hbad] at q; exact q.elim
            · refine ⟨true, exm hm, fun _ a na => ⟨k, h, rfl, rfl, hmh, trivial, G', ρ', I', ?_⟩, fun z => nomatch z⟩
              rw [heq] at q
              cases e2 : evCs fn fu h ρ' with
              | nx ρ4 => rw [e2] at q; exact fun σ2 H2 G2 s2 I2 _ => q _ _ _ s2 I2
              | cont ρ4 => rw [e2] at q; exact q
              | brk ρ4 => rw [e2] at q; exact q
              | ret z => rw [e2] at q; exact q
              | bad => rw [e2] at q; exact q.elim
              | exc _ _ => rw [e2] at q; exact q.elim
  · cases h
end
end Den
namespace Den
open PySem PySem.Spec PyProof.Rows L2
section
variable {C : Cfg} {fn : Nat → List D → R D} {fu : Nat} {W : WX} {cls : Nat → Value} {X : Cx} {G0 H0 : Hp}
abbrev tCs (C : Cfg) (fn : Nat → List D → R D) (fu : Nat) (W : WX) (cls : Nat → Value) (K : PySem.W.Frag) (G0 H0 : Hp) (x : Cmds) : TS := tCm C fn fu W cls K G0 H0 (evCs fn fu x)
theorem cm_if (c : CtxD C fn W cls X) {t : Ex} {a b : Cmds} {s : Stmt} (h : mC C (.if_ t a b) s = true) (ha : ∀ l, mCs C a l = true → PSs X l (tCs C fn fu W cls X.K G0 H0 a)) (hb : ∀ l, mCs C b l = true → PSs X l (tCs C fn fu W cls X.K G0 H0 b)) :
    PS X s (tCd C fn fu W cls X.K G0 H0 (.if_ t a b)) := by
  unfold mC at h
  split at h
  · simp only [Bool.and_eq_true] at h
    obtain ⟨⟨⟨h1, h2⟩, h3⟩, h4⟩ := h
    refine ps_imp (ps_if ((snd_all t c.c h1).pt h2) (ha _ h3) (hb _ h4)) fun D σ H q => ?_
    obtain ⟨G, ρ, I, q⟩ := q
    refine thenT I q fun k H1 G1 t1 I1 q1 => ?_
    cases k with
    | true => exact ⟨G1, ρ, I1, q1⟩
    | false => exact ⟨G1, ρ, I1, q1⟩
  · cases h
theorem cm_for (c : CtxD C fn W cls X) {it : Itr} {tg : Tg} {a : Cmds} {s : Stmt} (h : mC C (.for_ it tg a) s = true) (ha : ∀ l, mCs C a l = true → PSs X l (tCs C fn fu W cls X.K G0 H0 a)) : PS X s (tCd C fn fu W cls X.K G0 H0 (.for_ it tg a)) := by
  unfold mC at h
  split at h
  · simp only [Bool.and_eq_true] at h
    obtain ⟨⟨⟨⟨h1, h2⟩, h3⟩, h4⟩, h5⟩ := h
    obtain ⟨ht, hto⟩ := tg_ok c.c h4
    refine ps_imp (ps_for c.po c.c.calm (sndi_all it c.c h1) ht (ha _ h5) (plE_set h2)) fun D σ H q => ?_
    obtain ⟨G, ρ, I, q⟩ := q
    refine thenI I q fun xs J H1 G1 t1 I1 yl q1 => ?_
    refine ⟨fun i m σ H => m = xs.length - i ∧ i ≤ xs.length ∧ ∃ G ρ, SI X.K C.T.isOwn G0 H0 G ρ σ H ∧ Same G1 G ∧ WantC W cls X.K C.T.isOwn C.fr G0 H0 (forL (fun ρ x => thenO (bindT ρ tg x) ρ fun ρ' => evCs fn fu a ρ') (xs.drop i) ρ) G D,
      ⟨xs.length, by omega, Nat.zero_le _, G1, ρ, I1, Same.refl _, by rw [List.drop_zero]; exact q1⟩, ?_⟩
    rintro i m σ2 H2 ⟨rfl, hi, G2, ρ2, I2, sg, q2⟩
    obtain ⟨y1, y2⟩ := yl G2 H2 sg I2.F.ok (.inl h3)
    by_cases hlt : i < xs.length
    · have hx : xs[i]? = some xs[i] := List.getElem?_eq_getElem hlt
      obtain ⟨go, yy⟩ := y1 i _ hx
      rw [List.drop_eq_getElem_cons hlt, forL] at q2
      refine .inr ⟨go, fun σ' H' => ∃ G ρ, SI X.K C.T.isOwn G0 H0 G ρ σ' H' ∧ Same G1 G ∧ WantC W cls X.K C.T.isOwn C.fr G0 H0 (forL (fun ρ x => thenO (bindT ρ tg x) ρ fun ρ' => evCs fn fu a ρ') (xs.drop (i + 1)) ρ) G D, fun σ' H' hN => ?_, fun x H' hy => ?_⟩
      · obtain ⟨G', ρ', a1, a2, a3⟩ := hN
        exact ⟨xs.length - (i + 1), by omega, rfl, hlt, G', ρ', a1, a2, a3⟩
      · obtain ⟨G', t', rx⟩ := yy x H' hy
        have I3 := I2.step t'
        have q3 := WantC.shift t'.g q2
        have sg' := sg.trans t'.g
        cases e1 : bindT ρ2 tg xs[i] with
        | exc c' => exact absurd e1 (bindT_ne _ _ _ c')
        | bad => rw [e1] at q3; exact q3.elim
        | ok ρ3 =>
          rw [e1] at q3
          refine gT_readI hto I3 rx e1 fun σ3 I4 => ⟨G', ρ3, I4, ?_⟩
          have q3 : WantC W cls X.K C.T.isOwn C.fr G0 H0 (match evCs fn fu a ρ3 with
            | .nx ρ' => forL (fun ρ x => thenO (bindT ρ tg x) ρ fun ρ' => evCs fn fu a ρ') (xs.drop (i + 1)) ρ'
            | .cont ρ' => forL (fun ρ x => thenO (bindT ρ tg x) ρ fun ρ' => evCs fn fu a ρ') (xs.drop (i + 1)) ρ'
            | .brk ρ' => .nx ρ'
            | o => o) G' D := q3
          cases e2 : evCs fn fu a ρ3 with
          | nx ρ4 => rw [e2] at q3; exact fun σ' H' G'' s' I' => ⟨G'', ρ4, I', sg'.trans s', WantC.shift s' q3⟩
          | cont ρ4 => rw [e2] at q3; exact fun σ' H' G'' s' I' => ⟨G'', ρ4, I', sg'.trans s', WantC.shift s' q3⟩
          | brk ρ4 => rw [e2] at q3; exact fun σ' H' G'' s' I' => q3 σ' H' G'' s' I'
          | ret z => rw [e2] at q3; exact q3
          | exc c' ρ4 => rw [e2] at q3; exact q3
          | bad => rw [e2] at q3; exact q3
    · have ei : i = xs.length := by omega
      subst ei
      rw [List.drop_length, forL] at q2
      exact .inl ⟨y2, wantC_nx I2 q2⟩
  · cases h
theorem cm_while (c : CtxD C fn W cls X) {t : Ex} {a : Cmds} {s : Stmt} (h : mC C (.while_ t a) s = true) (ha : ∀ l, mCs C a l = true → PSs X l (tCs C fn fu W cls X.K G0 H0 a)) : PS X s (tCd C fn fu W cls X.K G0 H0 (.while_ t a)) := by
  unfold mC at h
  split at h
  · simp only [Bool.and_eq_true] at h
    obtain ⟨⟨h1, h2⟩, h3⟩ := h
    refine ps_imp (ps_while c.po ((snd_all t c.c h1).pt h2) (ha _ h3)) fun D σ H q => ?_
    obtain ⟨G1, ρ, I, q⟩ := q
    refine ⟨fun m σ H => ∃ G ρ, SI X.K C.T.isOwn G0 H0 G ρ σ H ∧ WantC W cls X.K C.T.isOwn C.fr G0 H0 (whL (fun ρ => ev fn t ρ) (fun ρ => evCs fn fu a ρ) m ρ) G D, ⟨fu, G1, ρ, I, q⟩, ?_⟩
    rintro m σ2 H2 ⟨G2, ρ2, I2, q2⟩
    cases m with
    | zero => exact q2.elim
    | succ m =>
      rw [whL] at q2
      refine thenT I2 q2 fun k H3 G3 t3 I3 q3 => ?_
      cases k with
      | false => exact wantC_nx I3 q3
      | true =>
        have q3 : WantC W cls X.K C.T.isOwn C.fr G0 H0 (match evCs fn fu a ρ2 with
            | .nx ρ' => whL (fun ρ => ev fn t ρ) (fun ρ => evCs fn fu a ρ) m ρ'
            | .cont ρ' => whL (fun ρ => ev fn t ρ) (fun ρ => evCs fn fu a ρ) m ρ'
            | .brk ρ' => .nx ρ'
            | o => o) G3 D := q3
        rw [if_pos rfl]
        refine ⟨fun σ' H' => ∃ G ρ, SI X.K C.T.isOwn G0 H0 G ρ σ' H' ∧ WantC W cls X.K C.T.isOwn C.fr G0 H0 (whL (fun ρ => ev fn t ρ) (fun ρ => evCs fn fu a ρ) m ρ) G D, fun σ' H' hN => ⟨m, Nat.lt_succ_self m, hN⟩, G3, ρ2, I3, ?_⟩
        cases e2 : evCs fn fu a ρ2 with
        | nx ρ4 => rw [e2] at q3; exact fun σ' H' G'' s' I' => ⟨G'', ρ4, I', WantC.shift s' q3⟩
        | cont ρ4 => rw [e2] at q3; exact fun σ' H' G'' s' I' => ⟨G'', ρ4, I', WantC.shift s' q3⟩
        | brk ρ4 => rw [e2] at q3; exact fun σ' H' G'' s' I' => q3 σ' H' G'' s' I'
        | ret z => rw [e2] at q3; exact q3
        | exc c' ρ4 => rw [e2] at q3; exact q3
        | bad => rw [e2] at q3; exact q3
  · cases h
mutual
theorem cm_all : ∀ (x : Cmd) {C : Cfg} {W : WX} {X : Cx} {G0 H0 : Hp} (c : CtxD C fn W cls X) {s : Stmt}, mC C x s = true → PS X s (tCd C fn fu W cls X.K G0 H0 x)
  | .set i e, C, W, X, G0, H0, c, _, h => cm_set c h
  | .own i e, C, W, X, G0, H0, c, _, h => cm_own c h
  | .tgt is e, C, W, X, G0, H0, c, _, h => cm_tgt c h
  | .mov i j, C, W, X, G0, H0, c, _, h => cm_mov c h
  | .aug i b e, C, W, X, G0, H0, c, _, h => cm_aug c h
  | .setIx i k e, C, W, X, G0, H0, c, _, h => cm_setIx c h
  | .app i e, C, W, X, G0, H0, c, _, h => cm_app c h
  | .appM i j, C, W, X, G0, H0, c, _, h => cm_appM c h
  | .ext i e, C, W, X, G0, H0, c, _, h => cm_ext c h
  | .pop j i, C, W, X, G0, H0, c, _, h => cm_pop c h
  | .clear i, C, W, X, G0, H0, c, _, h => cm_clear c h
  | .rvs i, C, W, X, G0, H0, c, _, h => cm_rvs c h
  | .expr e, C, W, X, G0, H0, c, _, h => cm_expr c h
  | .ret e, C, W, X, G0, H0, c, _, h => cm_ret c h
  | .retM i, C, W, X, G0, H0, c, _, h => cm_retM c h
  | .retN, C, W, X, G0, H0, c, _, h => cm_retN c h
  | .dput i k e, C, W, X, G0, H0, c, _, h => cm_dput c h
  | .dputT i k e, C, W, X, G0, H0, c, _, h => cm_dputT c h
  | .movD i j, C, W, X, G0, H0, c, _, h => cm_movD c h
  | .if_ t a b, C, W, X, G0, H0, c, _, h => cm_if c h (fun l hl => cms_all a c hl) fun l hl => cms_all b c hl
  | .for_ it tg a, C, W, X, G0, H0, c, _, h => cm_for c h fun l hl => cms_all a c hl
  | .while_ t a, C, W, X, G0, H0, c, _, h => cm_while c h fun l hl => cms_all a c hl
  | .pass, C, W, X, G0, H0, c, s, h => by
    unfold mC at h
    split at h
    · refine ps_imp ps_pass fun D σ H q => ?_
      obtain ⟨G, ρ, I, q⟩ := q
      exact wantC_nx I q
    · cases h
  | .brk, C, W, X, G0, H0, c, s, h => by
    unfold mC at h
    split at h
    · refine ps_imp ps_break fun D σ H q => ?_
      obtain ⟨G, ρ, I, q⟩ := q
      exact (show WantC W cls X.K C.T.isOwn C.fr G0 H0 (.brk ρ) G D from q) σ H G (Same.refl _) I
    · cases h
  | .cont, C, W, X, G0, H0, c, s, h => by
    unfold mC at h
    split at h
    · refine ps_imp ps_continue fun D σ H q => ?_
      obtain ⟨G, ρ, I, q⟩ := q
      exact (show WantC W cls X.K C.T.isOwn C.fr G0 H0 (.cont ρ) G D from q) σ H G (Same.refl _) I
    · cases h
  | .raise n, C, W, X, G0, H0, c, _, h => cm_raise c h
  | .kill is, C, W, X, G0, H0, c, _, h => by cases h
  | .try_ b i cc hs, C, W, X, G0, H0, c, _, h => cm_try c h fun _ _ c' l hl => cms_all b c' hl
theorem cms_all : ∀ (x : Cmds) {C : Cfg} {W : WX} {X : Cx} {G0 H0 : Hp} (c : CtxD C fn W cls X) {l : List Stmt}, mCs C x l = true → PSs X l (tCs C fn fu W cls X.K G0 H0 x)
  | .nil, C, W, X, G0, H0, c, l, h => by
    cases l with
    | cons _ _ => cases h
    | nil =>
      refine pss_imp pss_nil fun D σ H q => ?_
      obtain ⟨G, ρ, I, q⟩ := q
      exact wantC_nx I q
  | .cons x r, C, W, X, G0, H0, c, l, h => by
    cases hk : killB x with
    | true =>
      cases x with
      | kill is =>
        have h : mCs C r l = true := h
        refine pss_imp (cms_all r (G0 := G0) (H0 := H0) c h) fun D σ H q => ?_
        obtain ⟨G, ρ, I, q⟩ := q
        exact ⟨G, wipeE ρ is, I.wipe is, q⟩
      | _ => cases hk
    | false =>
    cases l with
    | nil => unfold mCs at h; rw [hk] at h; cases h
    | cons s ss =>
      unfold mCs at h
      rw [hk] at h
      simp only [Bool.false_eq_true, if_false, Bool.and_eq_true] at h
      refine pss_imp (pss_cons (cm_all x (G0 := G0) (H0 := H0) c h.1) (cms_all r (G0 := G0) (H0 := H0) c h.2)) fun D σ H q => ?_
      obtain ⟨G, ρ, I, q⟩ := q
      refine ⟨G, ρ, I, ?_⟩
      have q : WantC W cls X.K C.T.isOwn C.fr G0 H0 (seqO (evC fn fu x ρ) fun ρ' => evCs fn fu r ρ') G D := q
      cases e : evC fn fu x ρ with
      | nx ρ4 => rw [e] at q; exact fun σ' H' G'' s' I' => ⟨G'', ρ4, I', WantC.shift s' q⟩
      | cont ρ4 => rw [e] at q; exact q
      | brk ρ4 => rw [e] at q; exact q
      | ret z => rw [e] at q; exact q
      | exc c' ρ4 => rw [e] at q; exact q
      | bad => rw [e] at q; exact q
  | .shr i r, C, W, X, G0, H0, c, l, h => by
    have h : mCs (C.shr i) r l = true := h
    have c' : CtxD (C.shr i) fn W cls X := ⟨⟨c.c.hN, c.c.nd, c.c.hs, c.c.calm, c.c.fnc, c.c.bt, c.c.cs, c.c.un, c.c.tk, c.c.fns⟩, c.kind, c.po, c.ex, c.st, c.fm, c.sb, c.ct⟩
    refine pss_imp (cms_all r (G0 := G0) (H0 := H0) c' h) fun D σ H q => ?_
    obtain ⟨G, ρ, I, q⟩ := q
    obtain ⟨G1, sg, I1⟩ := I.share i (own' := (C.shr i).T.isOwn) (fun j => isOwn_shr C.T i j)
    have q : WantC W cls X.K C.T.isOwn C.fr G0 H0 (wipeO i (evCs fn fu r ρ)) G1 D := WantC.shift sg q
    refine ⟨G1, ρ, I1, ?_⟩
    have back : ∀ {G' ρ' σ' H'}, SI X.K (C.shr i).T.isOwn G0 H0 G' ρ' σ' H' → SI X.K C.T.isOwn G0 H0 G' (ρ'.set i none) σ' H' := fun I' => I'.unshare i (own' := C.T.isOwn) (fun j => isOwn_shr C.T i j)
    cases e : evCs fn fu r ρ with
    | nx ρ4 => rw [e] at q; exact fun σ' H' G'' s' I' => q σ' H' G'' s' (back I')
    | cont ρ4 => rw [e] at q; exact fun σ' H' G'' s' I' => q σ' H' G'' s' (back I')
    | brk ρ4 => rw [e] at q; exact fun σ' H' G'' s' I' => q σ' H' G'' s' (back I')
    | ret z => rw [e] at q; exact q
    | exc c' ρ4 => rw [e] at q; exact fun σ' H' G'' s' I' => q σ' H' G'' s' (back I')
    | bad => rw [e] at q; exact q
end
end

/-! ### a def of the text keeps its promise by data -/
theorem init_get {vs : List V} {ds : List D} {K : PySem.W.Frag} {G : Hp} {N : Nat} {M : List Str} (hM : M.length = N) (r : RpL K G vs ds) {i : Nat} {z : D} (h : (initE N ds)[i]? = some (some z)) : ∃ v, (L2.start M vs)[i]? = some (some v) ∧ Rp K G v z := by
  unfold initE at h
  unfold L2.start
  by_cases hi : i < ds.length
  · rw [List.getElem?_append_left (by rw [List.length_map]; exact hi), List.getElem?_map] at h
    have hv : i < vs.length := by rw [r.len]; exact hi
    rw [List.getElem?_append_left (by rw [List.length_map]; exact hv), List.getElem?_map]
    cases e : ds[i]? with
    | none => rw [e] at h; cases h
    | some w =>
      rw [e] at h
      cases h
      obtain ⟨v, e2, q⟩ := r.get e
      exact ⟨v, by rw [e2]; rfl, q⟩
  · rw [List.getElem?_append_right (by rw [List.length_map]; omega), List.getElem?_replicate] at h
    split at h <;> cases h
/-- the parameters are not own -/
def parOk (C : Cfg) (n : Nat) : Bool := (List.range n).all fun i => !C.T.isOwn i
theorem fn_def {P : Program} {w : World} {K : PySem.W.Frag} {mg : Str → Option Value} {base : Heap} {cls : Nat → Value} {k fu : Nat} {f : Addr} {fd : FuncData} {st : Stmt} {C : Cfg} {fn : Nat → List D → R D} {x : Str} {ps : List Str} {body : Cmds}
    (F : Fun K x x st f fd) (S : FnScope C.T.N ps (defScope st)) (hsc : C.sc = defScope st) (hm : mCs C body (defBody st) = true) (hp : parOk C ps.length = true)
    (bt : ∀ y ∈ C.T.bt, mg y = none) (cs : ∀ p ∈ C.T.cs, ∃ t, mg p.1 = some (.int p.2 t)) (ex : ∀ (n : Nat) (y : Str), C.ex[n]? = some y → y ≠ "" → ExD K mg y (cls n))
    (sb : ∀ p ∈ C.sb, SubD K mg (cls p.1) p.2.1 p.2.2) (ct : ∀ p ∈ C.ct, CatD K mg (cls p.1) p.2)
    (fns : ∀ (A : Around), Room k A → ∀ g y n fr, C.T.fns.lookup g = some (y, n, fr) → FnD P w K mg base A cls (fn g) y n fr) :
    FnOk P w K mg base (L2.CX P w) (k + 1) f fd ps (spD K cls ps.length C.fr (runF fn fu C.T.N.length C.fr body)) := by
  obtain ⟨oc, od, kV, doc, pm, an, cdv, ctv, osl, rfl, lk, hcd⟩ := F.ex
  refine fn_of lk hcd S (fun vs H Q E h => h.1) fun A outer s H vs Q E hr h => ?_
  obtain ⟨hl, G, ds, ok, r, h⟩ := h
  have c : CtxD C fn (fun cls d _ H => E cls d H) cls (cxOf (L2.CX P w) P w K mg base C.T.N x (defScope st) f cdv A outer s H E) := by
    refine ⟨⟨rfl, S.nd, hsc.symm, rfl, fun _ _ => rfl, bt, cs, ?_, takes_of rfl rfl rfl rfl, fns _ hr⟩, S.kind, passes_of rfl, ex, rfl, rfl, sb, ct⟩
    exact hr.units
  refine ⟨_, cms_all (fu := fu) body (G0 := G) (H0 := H) c hm, ?_⟩
  have hlen : (initE C.T.N.length ds).length = (L2.start C.T.N vs).length := by
    unfold initE L2.start
    rw [List.length_append, List.length_append, List.length_map, List.length_map, List.length_replicate, List.length_replicate, r.len]
  have np : ∀ i z, C.T.isOwn i = true → (initE C.T.N.length ds)[i]? = some (some z) → False := fun i z hi e => by
    have hi2 : i < ds.length := by
      unfold initE at e
      by_cases q : i < ds.length
      · exact q
      · rw [List.getElem?_append_right (by rw [List.length_map]; omega), List.getElem?_replicate] at e
        split at e <;> cases e
    have := List.all_eq_true.mp hp i (List.mem_range.mpr (by rw [← hl, r.len]; exact hi2))
    rw [hi] at this
    cases this
  refine ⟨G, initE C.T.N.length ds, ⟨⟨ok, hlen, fun i z hi e => init_get rfl r e, fun i z hi e => (np i z hi e).elim, fun i j a y z hi hj e => (np i y hi e).elim⟩, Stp.refl ok, fun i z a hi e => (np i z hi e).elim⟩, ?_⟩
  unfold runF at h
  cases e : evCs fn fu body (initE C.T.N.length ds) with
  | nx ρ =>
    rw [e] at h
    intro σ' H' G' sg I
    cases hf : C.fr with
    | true => rw [hf] at h; exact h.elim
    | false =>
      rw [hf] at h
      exact h .non H' G' I.t (Rp.non)
  | ret z =>
    rw [e] at h
    exact fun v H' G' sg t p => h v H' G' t p
  | exc c' ρ =>
    rw [e] at h
    exact fun σ' H' G' sg I => h H' G' I.t
  | brk ρ => rw [e] at h; exact h.elim
  | cont ρ => rw [e] at h; exact h.elim
  | bad => rw [e] at h; exact h.elim
end Den
namespace Den
open PySem PySem.Spec PyProof.Rows L2

/-- a def and its term -/
structure DefM where
  id : Nat
  nm : Str
  ps : List Str
  N : List Str
  own : List Nat
  fr : Bool
  body : Cmds
/-- what the top holds besides the defs -/
structure Top where
  cs : List (Str × Int)
  bt : List Str
  ex : List Str
  sb : List (Nat × Str × Bool)
  ct : List (Nat × Str)
def fnsOf (l : List DefM) : List (Nat × Str × Nat × Bool) := l.map fun d => (d.id, d.nm, d.ps.length, d.fr)
/-- what the defs compute; the latest one first -/
def fnL (fu : Nat) : List DefM → Nat → List D → R D
  | [], _ => fun _ => .bad
  | d :: r, f => if f = d.id then runF (fnL fu r) fu d.N.length d.fr d.body else fnL fu r f
def cfgOf (t : Top) (d : DefM) (r : List DefM) (sc : Scope) : Cfg := ⟨⟨d.N, d.own, fnsOf r, t.cs, t.bt⟩, sc, t.ex, t.sb, t.ct, d.fr⟩
def fsB (N ps : List Str) (sc : Scope) : Bool :=
  (match sc.kind with | .function => true | _ => false) && !sc.isCoroutine && !sc.isGenerator && decide N.Nodup && decide (N.take ps.length = ps) &&
    (ps.all fun x => match sc.names.lookup x with | some .local => true | some .cell => true | _ => false) && (sc.names.all fun y => match y.2 with | .free => false | _ => true)
theorem fsB_ok {N ps : List Str} {sc : Scope} (h : fsB N ps sc = true) : FnScope N ps sc := by
  unfold fsB at h
  simp only [Bool.and_eq_true, decide_eq_true_eq, List.all_eq_true] at h
  obtain ⟨⟨⟨⟨⟨⟨h1, h2⟩, h3⟩, h4⟩, h5⟩, h6⟩, h7⟩ := h
  refine ⟨?_, by simpa using h2, by simpa using h3, h4, h5, fun x hx => ?_, fun y hy e => ?_⟩
  · cases q : sc.kind <;> rw [q] at h1 <;> first | rfl | cases h1
  · have := h6 x hx
    split at this
    · exact .inl (by assumption)
    · exact .inr (by assumption)
    · cases this
  · have := h7 y hy
    rw [e] at this
    cases this
/-- one def against its text -/
def chk1 (t : Top) (d : DefM) (r : List DefM) (st : Stmt) : Bool :=
  fsB d.N d.ps (defScope st) && mCs (cfgOf t d r (defScope st)) d.body (defBody st) && parOk (cfgOf t d r (defScope st)) d.ps.length
/-- where a def stands behind the top -/
structure Placed (K : PySem.W.Frag) (mg : Str → Option Value) (d : DefM) (st : Stmt) : Prop where
  ex : ∃ f fd, Fun K d.nm d.nm st f fd ∧ mg d.nm = some (.ref f) ∧ ∀ us : List Value, us.length = d.ps.length → bindArgs fd ⟨us, []⟩ = pure (d.ps.zip us)
inductive AllP (K : PySem.W.Frag) (mg : Str → Option Value) (t : Top) : List DefM → Prop
  | nil : AllP K mg t []
  | cons {d : DefM} {r : List DefM} (st : Stmt) : chk1 t d r st = true → Placed K mg d st → AllP K mg t r → AllP K mg t (d :: r)
theorem all_ok {P : Program} {w : World} {K : PySem.W.Frag} {mg : Str → Option Value} {base : Heap} {cls : Nat → Value} {fu : Nat} {t : Top} (bt : ∀ y ∈ t.bt, mg y = none) (cs : ∀ p ∈ t.cs, ∃ tk, mg p.1 = some (.int p.2 tk)) (ex : ∀ (n : Nat) (y : Str), t.ex[n]? = some y → y ≠ "" → ExD K mg y (cls n)) (sb : ∀ p ∈ t.sb, SubD K mg (cls p.1) p.2.1 p.2.2) (ct : ∀ p ∈ t.ct, CatD K mg (cls p.1) p.2) :
    ∀ {l : List DefM}, AllP K mg t l → ∀ (f : Nat) (x : Str) (n : Nat) (fr : Bool), (fnsOf l).lookup f = some (x, n, fr) → ∃ fa fd ps, FnOk P w K mg base (L2.CX P w) l.length fa fd ps (spD K cls n fr (fnL fu l f)) ∧ mg x = some (.ref fa) ∧ PySem.W.keepIn K (.ref fa) = true ∧ Binds K fd ps []
  | [], _, f, x, n, fr, h => by simp [fnsOf] at h
  | d :: r, .cons st hc hp hr, f, x, n, fr, h => by
    have ih := all_ok (P := P) (w := w) (base := base) (fu := fu) bt cs ex sb ct hr
    have h : ((d.id, d.nm, d.ps.length, d.fr) :: fnsOf r).lookup f = some (x, n, fr) := h
    by_cases e : f = d.id
    · subst e
      rw [List.lookup_cons] at h
      simp only [beq_self_eq_true, Option.some.injEq, Prod.mk.injEq] at h
      obtain ⟨rfl, rfl, rfl⟩ := h
      obtain ⟨fa, fd, F, hm, hb⟩ := hp.ex
      unfold chk1 at hc
      rw [Bool.and_eq_true, Bool.and_eq_true] at hc
      have ef : fnL fu (d :: r) d.id = runF (fnL fu r) fu d.N.length d.fr d.body := by
        show (if d.id = d.id then _ else _) = _
        rw [if_pos rfl]
      rw [ef]
      refine ⟨fa, fd, d.ps, fn_def (C := cfgOf t d r (defScope st)) F (fsB_ok hc.1.1) rfl hc.1.2 hc.2 bt cs ex sb ct fun A hr' g y n fr hg => ?_, hm, F.kp, .all hb⟩
      obtain ⟨fa', fd', ps', k1, k2, k3, k4⟩ := ih g y n fr hg
      exact ⟨fa', fd', ps', _, k1, hr', k2, k3, k4⟩
    · have e1 : (f == d.id) = false := by simpa using e
      rw [List.lookup_cons, e1] at h
      obtain ⟨fa, fd, ps, k1, k2, k3, k4⟩ := ih f x n fr h
      have ef : fnL fu (d :: r) f = fnL fu r f := by
        show (if f = d.id then _ else _) = _
        rw [if_neg e]
      rw [ef]
      exact ⟨fa, fd, ps, k1.mono (Nat.le_succ _), k2, k3, k4⟩
theorem fnL_hd {fu : Nat} {d : DefM} {r : List DefM} : fnL fu (d :: r) d.id = runF (fnL fu r) fu d.N.length d.fr d.body := by
  show (if d.id = d.id then _ else _) = _
  rw [if_pos rfl]
theorem fnL_tl {fu : Nat} {d : DefM} {r : List DefM} {f : Nat} (h : f ≠ d.id) : fnL fu (d :: r) f = fnL fu r f := by
  show (if f = d.id then _ else _) = _
  rw [if_neg h]

/-! ### the facts of the head -/
section
variable {K : PySem.W.Frag} {mg : Str → Option Value} {h : Heap}
theorem placed_mk (X : K.In h) (G : h.Ns mainGlobals mg) {d : DefM} {st : Stmt} (x : Str) (ps : List Str) (hx : d.nm = x) (hps : d.ps = ps) {f : Addr} {od an : Option Addr} {sl : Array (Option Value)} {oc kV dc pm cd ct : Value}
    (a : PySem.W.nsIn K mainGlobals x = some (some (.ref f))) (l : K.lookup f = some ⟨oc, od, .func (PySem.W.fnOf x x (defArgs st) (defBody st) (defScope st) .none kV dc pm an cd ct), sl⟩) (c : PySem.W.codeIn K cd x = true) (k : PySem.W.keepIn K (.ref f) = true)
    (b : ∀ us : List Value, us.length = ps.length → bindArgs (PySem.W.fnOf x x (defArgs st) (defBody st) (defScope st) .none kV dc pm an cd ct) ⟨us, []⟩ = pure (ps.zip us)) : Placed K mg d st := by
  subst hx hps
  have F := fun_mk (st := st) l c k
  exact ⟨f, _, F, PySem.W.mg_of X G a, b⟩
theorem none_mk (X : K.In h) (G : h.Ns mainGlobals mg) {x : Str} (a : PySem.W.nsIn K mainGlobals x = some none) : mg x = none := PySem.W.mg_none_of X G a
theorem ex_mk (X : K.In h) (G : h.Ns mainGlobals mg) {x : Str} {C : Addr} (a : PySem.W.nsIn K mainGlobals x = some (some (.ref C))) (q : PySem.W.excIn K C [.type "ValueError", .type "Exception", .type "BaseException", .type "object"] "ValueError.__new__" = true)
    (k : PySem.W.keepIn K (.ref C) = true) (b : PySem.W.subIn K (.ref C) (.type "BaseException") = some true) (ty : PySem.W.typeIn K (.ref C) = some (.type "type")) : ExD K mg x (.ref C) := ⟨C, rfl, PySem.W.mg_of X G a, q, k, b, ty⟩
end
/-- what isinstance, an except clause says of a class's exceptions, by name -/
structure SubN (K : PySem.W.Frag) (mg : Str → Option Value) (x y : Str) (b : Bool) : Prop where
  ex : ∃ D, mg x = some (.ref D) ∧ mg "" = none ∧ SubD K mg (.ref D) y b
structure CatN (K : PySem.W.Frag) (mg : Str → Option Value) (x y : Str) : Prop where
  ex : ∃ D, mg x = some (.ref D) ∧ mg "" = none ∧ CatD K mg (.ref D) y
section
variable {K : PySem.W.Frag} {mg : Str → Option Value} {h : Heap}
theorem excC_mk {D : Addr} (h1 : PySem.W.findIn K (.ref D) "__getattribute__" = some (some (.builtin "BaseException.__getattribute__"))) (h2 : PySem.W.findIn K (.ref D) "__getattr__" = some none) (h3 : PySem.W.subIn K (.ref D) (.type "BaseException") = some true)
    (h4 : PySem.W.hasDictIn K D = true) (h5 : PySem.W.findIn K (.ref D) "__class__" = some (some (.builtin "object.__class__"))) (h6 : PySem.W.specialIn K (.builtin "object.__class__") "__get__" = some (some (.builtin "getset_descriptor.__get__")))
    (h7 : PySem.W.takesIn K (.builtin "object.__class__") = some true) (h8 : PySem.W.mroIn K D (.type "object") = some true) : ExcC K D := ⟨h1, h2, h3, h4, h5, h6, h7, h8⟩
theorem sub_mk (X : K.In h) (G : h.Ns mainGlobals mg) {x y : Str} {D A : Addr} {b : Bool} (a : PySem.W.nsIn K mainGlobals x = some (some (.ref D))) (a0 : PySem.W.nsIn K mainGlobals "" = some none) (a2 : PySem.W.nsIn K mainGlobals y = some (some (.ref A))) (ec : ExcC K D)
    (k : PySem.W.kitOne K (.ref D) (.ref A) = some b) : SubN K mg x y b := ⟨D, PySem.W.mg_of X G a, PySem.W.mg_none_of X G a0, ⟨D, .ref A, .ref A, rfl, ec, .inl ⟨A, PySem.W.mg_of X G a2, rfl, rfl⟩, k⟩⟩
theorem sub_mkV (X : K.In h) (G : h.Ns mainGlobals mg) {x : Str} {D : Addr} {b : Bool} (a : PySem.W.nsIn K mainGlobals x = some (some (.ref D))) (a0 : PySem.W.nsIn K mainGlobals "" = some none) (a2 : PySem.W.nsIn K mainGlobals "ValueError" = some none) (ec : ExcC K D)
    (k : PySem.W.kitOne K (.ref D) (.type "ValueError") = some b) : SubN K mg x "ValueError" b := ⟨D, PySem.W.mg_of X G a, PySem.W.mg_none_of X G a0, ⟨D, .type "ValueError", .ty "ValueError", rfl, ec, .inr ⟨"ValueError", PySem.W.mg_none_of X G a2, by decide +kernel, by decide, rfl, rfl⟩, k⟩⟩
theorem cat_mk (X : K.In h) (G : h.Ns mainGlobals mg) {x y : Str} {D A : Addr} (a : PySem.W.nsIn K mainGlobals x = some (some (.ref D))) (a0 : PySem.W.nsIn K mainGlobals "" = some none) (a2 : PySem.W.nsIn K mainGlobals y = some (some (.ref A)))
    (h1 : PySem.W.subIn K (.ref A) (.type "BaseException") = some true) (h2 : PySem.W.hasDictIn K A = true) (h3 : PySem.W.typeIn K (.ref A) = some (.type "type")) (h4 : PySem.W.subIn K (.ref D) (.ref A) = some true) : CatN K mg x y :=
  ⟨D, PySem.W.mg_of X G a, PySem.W.mg_none_of X G a0, ⟨D, A, rfl, PySem.W.mg_of X G a2, PySem.W.exm_ref h1 h2 h3 h4⟩⟩
end
/-- the classes of what is refused, as the top names them -/
def clsOf (mg : Str → Option Value) (t : Top) (n : Nat) : Value := match t.ex[n]? with
  | some y => (mg y).getD .none
  | none => .none
/-- the law's own promise -/
def spL (K : PySem.W.Frag) (g : List D → R D) : Sp := fun vs H Q _ => vs.length = 1 ∧ ∃ G ds z, Ok2 G H ∧ RpL K G vs ds ∧ g ds = .ok z ∧ ∀ v H' G', Stp G H G' H' → Rp K G' v z → Q v H'
theorem sp_law {K : PySem.W.Frag} {g : List D → R D} {H : Hp} {a : Addr} {ns : List Int} {E : XK} (hS : SqL K H a (ns.map V.int)) (h : g [.lst (ns.map .int)] = .ok (.bl true)) :
    spL K g [.ref a] H (fun v _ => v = .bl true) E :=
  ⟨rfl, H, [.lst (ns.map .int)], _, ⟨Same.refl _, fun b o e n => by rw [e] at n; cases n⟩, .cons (.lst hS (RpL.ofInts ns)) .nil, h, fun v H' G' t p => bl_inv p⟩
theorem law_fn {P : Program} {w : World} {K : PySem.W.Frag} {mg : Str → Option Value} {fu : Nat} {t : Top} {d : DefM} {r : List DefM} {st : Stmt} {fa : Addr} (x : Str) (hx : d.ps = [x]) (hfr : d.fr = false) (hfa : mg d.nm = some (.ref fa))
    (bt : ∀ y ∈ t.bt, mg y = none) (cs : ∀ p ∈ t.cs, ∃ tk, mg p.1 = some (.int p.2 tk)) (ex : ∀ y ∈ t.ex, y ≠ "" → ∃ v, ExD K mg y v) (sb : ∀ p ∈ t.sb, SubN K mg (t.ex.getD p.1 "") p.2.1 p.2.2) (ct : ∀ p ∈ t.ct, CatN K mg (t.ex.getD p.1 "") p.2) (hc : chk1 t d r st = true) (hr : AllP K mg t r) (hp : Placed K mg d st) :
    ∃ fd : FuncData, (∀ (s : Shared) (v : Value), BindsTo s fd ⟨[v], []⟩ [(x, v)]) ∧ ∀ base : Heap, K.In base → base.Ns mainGlobals mg → FnOk P w K mg base (L2.CX P w) (r.length + 1) fa fd [x] (spL K (fnL fu (d :: r) d.id)) := by
  obtain ⟨f, fd, F, hm, hb⟩ := hp.ex
  rw [hfa] at hm
  cases hm
  refine ⟨fd, fun s v => ?_, fun base _ _ => ?_⟩
  · have := hb [v] (by rw [hx]; rfl)
    rw [hx] at this
    exact .of_eq this
  · have ex' : ∀ (n : Nat) (y : Str), t.ex[n]? = some y → y ≠ "" → ExD K mg y (clsOf mg t n) := fun n y e hy => by
      obtain ⟨v, hv⟩ := ex y (List.mem_of_getElem? e) hy
      obtain ⟨C, e1, e2, q⟩ := hv.ex
      refine ⟨C, ?_, e2, q⟩
      unfold clsOf
      rw [e]
      show (mg y).getD .none = _
      rw [e2]
      rfl
    have nm : ∀ {n : Nat} {D : Addr}, mg (t.ex.getD n "") = some (.ref D) → mg "" = none → clsOf mg t n = .ref D := fun {n D} e h0 => by
      unfold clsOf
      rw [List.getD_eq_getElem?_getD] at e
      cases q : t.ex[n]? with
      | none => rw [q] at e; rw [show (none : Option Str).getD "" = "" from rfl, h0] at e; cases e
      | some y =>
        rw [q] at e
        have e : mg y = some (.ref D) := e
        show (mg y).getD .none = _
        rw [e]
        rfl
    have sb' : ∀ p ∈ t.sb, SubD K mg (clsOf mg t p.1) p.2.1 p.2.2 := fun p hp => by
      obtain ⟨D, h1, h0, h2⟩ := (sb p hp).ex
      rw [nm h1 h0]
      exact h2
    have ct' : ∀ p ∈ t.ct, CatD K mg (clsOf mg t p.1) p.2 := fun p hp => by
      obtain ⟨D, h1, h0, h2⟩ := (ct p hp).ex
      rw [nm h1 h0]
      exact h2
    unfold chk1 at hc
    rw [Bool.and_eq_true, Bool.and_eq_true] at hc
    have k := fn_def (P := P) (w := w) (base := base) (fu := fu) (fn := fnL fu r) (k := r.length) (C := cfgOf t d r (defScope st)) F (fsB_ok hc.1.1) rfl hc.1.2 hc.2 bt cs ex' sb' ct' fun A hr' g y n fr hg => by
      obtain ⟨fa', fd', ps', k1, k2, k3, k4⟩ := all_ok (P := P) (w := w) (base := base) (fu := fu) bt cs ex' sb' ct' hr g y n fr hg
      exact ⟨fa', fd', ps', _, k1, hr', k2, k3, k4⟩
    rw [hx] at k
    refine k.imp fun vs H Q E hs => ?_
    obtain ⟨hl, G, ds, z, ok, rp, hz, q⟩ := hs
    refine ⟨hl, G, ds, ok, rp, ?_⟩
    rw [fnL_hd] at hz
    show match runF (fnL fu r) fu d.N.length d.fr d.body ds with
      | .ok z => _
      | .exc c => _
      | .bad => False
    rw [hz]
    intro v H' G' t p
    have p : PK (if d.fr then .T else .S) K G H G' H' v z := p
    rw [hfr] at p
    exact q v H' G' t p
theorem cx_false {P : Program} {w : World} {outer : List PySem.Env} {H : Hp} {s s' : Shared} {e : Value} (h : L2.CX P w outer H s (fun _ _ _ => False) e s') : False := by
  obtain ⟨_, _, _, _, _, _, _, _, _, _, _, _, z⟩ := h
  exact z.elim
end Den
namespace Den
open PySem PySem.Spec PyProof.Rows L2
section
variable (fn : Nat → List D → R D) (fu : Nat) (ρ : Env)
/-! ### the terms' meaning, row by row -/
@[simp] theorem ev_var (i) : ev fn (.var i) ρ = getV ρ i := rfl
@[simp] theorem ev_cst (d) : ev fn (.cst d) ρ = .ok d := rfl
@[simp] theorem ev_gint (x i) : ev fn (.gint x i) ρ = .ok (.int i) := rfl
@[simp] theorem ev_bin (o a b) : ev fn (.bin o a b) ρ = (ev fn a ρ).bind fun x => (ev fn b ρ).bind fun y => binD o x y := rfl
@[simp] theorem ev_neg (a) : ev fn (.neg a) ρ = (ev fn a ρ).bind fun x => (asInt x).bind fun i => .ok (.int (-i)) := rfl
@[simp] theorem ev_cmp (o a b) : ev fn (.cmp o a b) ρ = (ev fn a ρ).bind fun x => (ev fn b ρ).bind fun y => cmpD o x y := rfl
@[simp] theorem ev_isN (a) : ev fn (.isN a) ρ = (ev fn a ρ).bind fun x => .ok (.bl (isNon x)) := rfl
@[simp] theorem ev_notN (a) : ev fn (.notN a) ρ = (ev fn a ρ).bind fun x => .ok (.bl (!isNon x)) := rfl
@[simp] theorem ev_chain (o o' a b c) : ev fn (.chain o o' a b c) ρ = (ev fn a ρ).bind fun x => (ev fn b ρ).bind fun y => (cmpD o x y).bind fun t => (asBool t).bind fun k => if k then (ev fn c ρ).bind fun z => cmpD o' y z else .ok (.bl false) := rfl
@[simp] theorem ev_and (a b) : ev fn (.and_ a b) ρ = (ev fn a ρ).bind fun x => (asBool x).bind fun k => if k then (ev fn b ρ).bind fun y => (asBool y).bind fun k => .ok (.bl k) else .ok (.bl false) := rfl
@[simp] theorem ev_or (a b) : ev fn (.or_ a b) ρ = (ev fn a ρ).bind fun x => (asBool x).bind fun k => if k then .ok (.bl true) else (ev fn b ρ).bind fun y => (asBool y).bind fun k => .ok (.bl k) := rfl
@[simp] theorem ev_not (a) : ev fn (.not_ a) ρ = (ev fn a ρ).bind fun x => (asBool x).bind fun k => .ok (.bl (!k)) := rfl
@[simp] theorem ev_ite (c a b) : ev fn (.ite c a b) ρ = (ev fn c ρ).bind fun x => (asBool x).bind fun k => if k then ev fn a ρ else ev fn b ρ := rfl
@[simp] theorem ev_tup (es) : ev fn (.tup es) ρ = (evs fn es ρ).bind fun ds => .ok (.tup ds) := rfl
@[simp] theorem ev_lst (es) : ev fn (.lst es) ρ = (evs fn es ρ).bind fun ds => .ok (.lst ds) := rfl
@[simp] theorem ev_ix (a b) : ev fn (.ix a b) ρ = (ev fn a ρ).bind fun x => (ev fn b ρ).bind fun y => ixD x y := rfl
@[simp] theorem ev_slF (a b) : ev fn (.slF a b) ρ = (ev fn a ρ).bind fun x => (ev fn b ρ).bind fun y => (asInt y).bind fun i => slD x (some i) none := rfl
@[simp] theorem ev_slT (a b) : ev fn (.slT a b) ρ = (ev fn a ρ).bind fun x => (ev fn b ρ).bind fun y => (asInt y).bind fun i => slD x none (some i) := rfl
@[simp] theorem ev_slB (a b c) : ev fn (.slB a b c) ρ = (ev fn a ρ).bind fun x => (ev fn b ρ).bind fun y => (asInt y).bind fun i => (ev fn c ρ).bind fun z => (asInt z).bind fun j => slD x (some i) (some j) := rfl
@[simp] theorem ev_call (f es) : ev fn (.call f es) ρ = (evs fn es ρ).bind fun ds => fn f ds := rfl
@[simp] theorem ev_callB (f es) : ev fn (.callB f es) ρ = (evs fn es ρ).bind fun ds => (fn f ds).bind fun z => .guard z.flat (.ok z) := rfl
@[simp] theorem ev_bi (b es) : ev fn (.bi b es) ρ = (evs fn es ρ).bind fun ds => biD b ds := rfl
@[simp] theorem ev_isi (a t) : ev fn (.isi a t) ρ = (ev fn a ρ).bind fun x => (isiD t x).bind fun b => .ok (.bl b) := rfl
@[simp] theorem ev_sset (a) : ev fn (.sset a) ρ = (ev fn a ρ).bind fun x => (itemsL x).bind fun xs => (someR (dInts xs)).bind fun is => .guard (decide (is.length < 4095)) (.ok (.lst ((sortU is).map .int))) := rfl
@[simp] theorem ev_lzip (es) : ev fn (.lzip es) ρ = (evs fn es ρ).bind fun ds => zip4D ds := rfl
@[simp] theorem ev_lrng (a b) : ev fn (.lrng a b) ρ = (ev fn a ρ).bind fun x => (ev fn b ρ).bind fun y => (asInt x).bind fun i => (asInt y).bind fun j => .guard (small62 i && small62 j && decide ((j - i).toNat ≤ Line)) (.ok (.lst (upto i (j - i).toNat))) := rfl
@[simp] theorem ev_lrev (a) : ev fn (.lrev a) ρ = (ev fn a ρ).bind fun x => (itemsL x).bind fun xs => .ok (.lst xs.reverse) := rfl
@[simp] theorem ev_dmin (mx a) : ev fn (.dmin mx a) ρ = (ev fn a ρ).bind fun x => (itemsL x).bind fun xs => (someR (dInts xs)).bind fun is => .ok (dmD mx is) := rfl
@[simp] theorem ev_cat (a b) : ev fn (.cat a b) ρ = (ev fn a ρ).bind fun x => (ev fn b ρ).bind fun y => catD x y := rfl
@[simp] theorem ev_call0 (f) : ev fn (.call0 f) ρ = fn f [] := rfl
theorem ev_comp (it tg own e) : ev fn (.comp it tg own e) ρ = (evi fn it ρ).bind fun xs => .guard (decide (xs.length ≤ Line)) ((compL (fun x => (bindT (wipeE ρ own) tg x).bind fun ρ' => (ev fn e ρ').bind fun d => .ok (some d)) xs).nox.bind fun ds => .ok (.lst ds)) := rfl
theorem ev_compIf (it tg own c e) : ev fn (.compIf it tg own c e) ρ = (evi fn it ρ).bind fun xs => .guard (decide (xs.length ≤ Line)) ((compL (fun x => (bindT (wipeE ρ own) tg x).bind fun ρ' => (ev fn c ρ').bind fun t => (asBool t).bind fun k =>
      if k then (ev fn e ρ').bind fun d => .ok (some d) else .ok none) xs).nox.bind fun ds => .ok (.lst ds)) := rfl
@[simp] theorem evs_nil : evs fn .nil ρ = .ok [] := rfl
@[simp] theorem evs_cons (a r) : evs fn (.cons a r) ρ = (ev fn a ρ).bind fun x => (evs fn r ρ).bind fun xs => .ok (x :: xs) := rfl
@[simp] theorem evi_seq (a) : evi fn (.seq a) ρ = (ev fn a ρ).bind items := rfl
@[simp] theorem evi_rng1 (a) : evi fn (.rng1 a) ρ = (ev fn a ρ).bind fun x => (asInt x).bind fun j => .ok (upto 0 j.toNat) := rfl
@[simp] theorem evi_rng2 (a b) : evi fn (.rng2 a b) ρ = (ev fn a ρ).bind fun x => (ev fn b ρ).bind fun y => (asInt x).bind fun i => (asInt y).bind fun j => .ok (upto i (j - i).toNat) := rfl
@[simp] theorem evi_enum (a) : evi fn (.enum a) ρ = (ev fn a ρ).bind fun x => (items x).bind fun xs => .ok (enumL 0 xs) := rfl
@[simp] theorem evi_zip (a b) : evi fn (.zip a b) ρ = (ev fn a ρ).bind fun x => (ev fn b ρ).bind fun y => zipD x y := rfl
@[simp] theorem evi_rev (a) : evi fn (.rev a) ρ = (ev fn a ρ).bind fun x => (items x).bind fun xs => .ok xs.reverse := rfl
@[simp] theorem evC_set (i e) : evC fn fu (.set i e) ρ = thenO (ev fn e ρ) ρ fun z => .nx (setV ρ i z) := rfl
@[simp] theorem evC_own (i e) : evC fn fu (.own i e) ρ = thenO (ev fn e ρ) ρ fun z => .nx (setV ρ i z) := rfl
@[simp] theorem evC_tgt (is e) : evC fn fu (.tgt is e) ρ = thenO (ev fn e ρ) ρ fun z => thenO (bindT ρ (.many is) z) ρ fun ρ' => .nx ρ' := rfl
@[simp] theorem evC_mov (i j) : evC fn fu (.mov i j) ρ = thenO (getV ρ j) ρ fun z => .nx (setV (ρ.set j none) i z) := rfl
@[simp] theorem evC_aug (i b e) : evC fn fu (.aug i b e) ρ = thenO (getV ρ i) ρ fun x => thenO (ev fn e ρ) ρ fun y => thenO ((asInt x).bind fun a => (asInt y).bind fun c => .ok (D.int (if b then a - c else a + c))) ρ fun z => .nx (setV ρ i z) := rfl
@[simp] theorem evC_setIx (i k e) : evC fn fu (.setIx i k e) ρ = thenO (ev fn e ρ) ρ fun z => thenO (lstV ρ i) ρ fun ds => thenO (ev fn k ρ) ρ fun y => thenO ((asInt y).bind fun j => someR (ixN ds.length j)) ρ fun j => .nx (setV ρ i (.lst (ds.set j z))) := rfl
@[simp] theorem evC_app (i e) : evC fn fu (.app i e) ρ = thenO (lstV ρ i) ρ fun ds => thenO (ev fn e ρ) ρ fun z => if ds.length < Line then .nx (setV ρ i (.lst (ds ++ [z]))) else .bad := rfl
@[simp] theorem evC_appM (i j) : evC fn fu (.appM i j) ρ = thenO (lstV ρ i) ρ fun ds => thenO (getV ρ j) ρ fun z => if ds.length < Line then .nx (setV (ρ.set j none) i (.lst (ds ++ [z]))) else .bad := rfl
@[simp] theorem evC_ext (i e) : evC fn fu (.ext i e) ρ = thenO (lstV ρ i) ρ fun ds => thenO (ev fn e ρ) ρ fun z => thenO (itemsL z) ρ fun es => if ds.length + es.length ≤ Line then .nx (setV ρ i (.lst (ds ++ es))) else .bad := rfl
@[simp] theorem evC_pop (i j) : evC fn fu (.pop j i) ρ = thenO (lstV ρ i) ρ fun ds => thenO (someR (ds[ds.length - 1]?)) ρ fun z => .nx (setV (setV ρ i (.lst ds.dropLast)) j z) := rfl
@[simp] theorem evC_clear (i) : evC fn fu (.clear i) ρ = thenO (lstV ρ i) ρ fun _ => .nx (setV ρ i (.lst [])) := rfl
@[simp] theorem evC_rvs (i) : evC fn fu (.rvs i) ρ = thenO (lstV ρ i) ρ fun ds => .nx (setV ρ i (.lst ds.reverse)) := rfl
@[simp] theorem evC_expr (e) : evC fn fu (.expr e) ρ = thenO (ev fn e ρ) ρ fun _ => .nx ρ := rfl
@[simp] theorem evC_ret (e) : evC fn fu (.ret e) ρ = thenO (ev fn e ρ) ρ fun z => .ret z := rfl
@[simp] theorem evC_retM (i) : evC fn fu (.retM i) ρ = thenO (getV ρ i) ρ fun z => .ret z := rfl
@[simp] theorem evC_retN : evC fn fu .retN ρ = .ret .non := rfl
@[simp] theorem evC_if (c a b) : evC fn fu (.if_ c a b) ρ = thenO ((ev fn c ρ).bind asBool) ρ fun k => if k then evCs fn fu a ρ else evCs fn fu b ρ := rfl
theorem evC_for (it tg body) : evC fn fu (.for_ it tg body) ρ = thenO (evi fn it ρ) ρ fun xs => forL (fun ρ x => thenO (bindT ρ tg x) ρ fun ρ' => evCs fn fu body ρ') xs ρ := rfl
theorem evC_while (c body) : evC fn fu (.while_ c body) ρ = whL (fun ρ => ev fn c ρ) (fun ρ => evCs fn fu body ρ) fu ρ := rfl
@[simp] theorem evC_pass : evC fn fu .pass ρ = .nx ρ := rfl
@[simp] theorem evC_brk : evC fn fu .brk ρ = .brk ρ := rfl
@[simp] theorem evC_cont : evC fn fu .cont ρ = .cont ρ := rfl
@[simp] theorem evC_kill (is) : evC fn fu (.kill is) ρ = .nx (wipeE ρ is) := rfl
@[simp] theorem evC_dput (i k e) : evC fn fu (.dput i k e) ρ = thenO (ev fn e ρ) ρ fun z => thenO (dctV ρ i) ρ fun p => thenO (ev fn k ρ) ρ fun y => thenO (someR (keyD y)) ρ fun k => if p.1.length < Line then .nx (setV ρ i (.dct false (puK p.1 k) (puV p.1 p.2 k z))) else .bad := rfl
@[simp] theorem evC_dputT (i k e) : evC fn fu (.dputT i k e) ρ = thenO (ev fn e ρ) ρ fun z => thenO (dcTV ρ i) ρ fun p => thenO (evs fn k ρ) ρ fun ys => thenO (someR (keysD ys)) ρ fun k => if p.1.length < Line then .nx (setV ρ i (.dcT (puK p.1 k) (puV p.1 p.2 k z))) else .bad := rfl
@[simp] theorem evC_movD (i j) : evC fn fu (.movD i j) ρ = thenO (dctV ρ j) ρ fun p => .nx (setV (ρ.set j none) i (.dct true p.1 p.2)) := rfl
@[simp] theorem ev_dnew (t) : ev fn (.dnew t) ρ = .ok (if t then .dcT [] [] else .dct false [] []) := rfl
@[simp] theorem ev_repL (es n) : ev fn (.repL es n) ρ = (evs fn es ρ).bind fun ds => .guard (decide (n ≤ 1000 ∧ ds.length * n ≤ Line)) (.ok (.lst (List.replicate n ds).flatten)) := rfl
@[simp] theorem ev_dlit (k v) : ev fn (.dlit k v) ρ = (ev fn k ρ).bind fun x => (ev fn v ρ).bind fun y => dlD x y := rfl
@[simp] theorem ev_dget1 (i k) : ev fn (.dget1 i k) ρ = (getV ρ i).bind fun x => (asDct x).bind fun x => (ev fn k ρ).bind fun y => dgD x y .non := rfl
@[simp] theorem ev_dget2 (i k z) : ev fn (.dget2 i k z) ρ = (getV ρ i).bind fun x => (asDct x).bind fun x => (ev fn k ρ).bind fun y => (ev fn z ρ).bind fun w => dgD x y w := rfl
@[simp] theorem evi_its (i) : evi fn (.its i) ρ = (getV ρ i).bind itemsD := rfl
@[simp] theorem evC_raise (c) : evC fn fu (.raise c) ρ = .exc c ρ := rfl
theorem evC_try (b i c hs) : evC fn fu (.try_ b i c hs) ρ = match evCs fn fu b ρ with
    | .exc k ρ' => if hasOp i ρ' then wipeOo i (evHs fn fu hs k (killOp i ρ')) else .bad
    | o => o := rfl
@[simp] theorem evHs_cons (k h r n) : evHs fn fu (.cons k h r) n ρ = if n = k then noxO (evCs fn fu h ρ) else evHs fn fu r n ρ := rfl
@[simp] theorem evHs_nil (n) : evHs fn fu .nil n ρ = .bad := rfl
@[simp] theorem evCs_nil : evCs fn fu .nil ρ = .nx ρ := rfl
theorem evCs_shr (i r) : evCs fn fu (.shr i r) ρ = wipeO i (evCs fn fu r ρ) := rfl
@[simp] theorem evCs_cons (c r) : evCs fn fu (.cons c r) ρ = seqO (evC fn fu c ρ) fun ρ' => evCs fn fu r ρ' := rfl
end
@[simp] theorem thenO_ok {α : Type} (z : α) (ρ : Env) (f : α → O) : thenO (.ok z) ρ f = f z := rfl
@[simp] theorem thenO_exc {α : Type} (c : Nat) (ρ : Env) (f : α → O) : thenO (.exc c : R α) ρ f = .exc c ρ := rfl
@[simp] theorem thenO_bad {α : Type} (ρ : Env) (f : α → O) : thenO (.bad : R α) ρ f = .bad := rfl
@[simp] theorem seqO_nx (ρ : Env) (f : Env → O) : seqO (.nx ρ) f = f ρ := rfl
@[simp] theorem seqO_brk (ρ : Env) (f : Env → O) : seqO (.brk ρ) f = .brk ρ := rfl
@[simp] theorem seqO_cont (ρ : Env) (f : Env → O) : seqO (.cont ρ) f = .cont ρ := rfl
@[simp] theorem seqO_ret (z : D) (f : Env → O) : seqO (.ret z) f = .ret z := rfl
@[simp] theorem seqO_exc (c : Nat) (ρ : Env) (f : Env → O) : seqO (.exc c ρ) f = .exc c ρ := rfl
@[simp] theorem wipeO_ret (i : Nat) (z : D) : wipeO i (.ret z) = .ret z := rfl
@[simp] theorem wipeO_nx (i : Nat) (ρ : Env) : wipeO i (.nx ρ) = .nx (ρ.set i none) := rfl
@[simp] theorem wipeO_exc (i c : Nat) (ρ : Env) : wipeO i (.exc c ρ) = .exc c (ρ.set i none) := rfl
@[simp] theorem wipeE_nil (ρ : Env) : wipeE ρ [] = ρ := rfl
@[simp] theorem wipeE_cons (ρ : Env) (v : Nat) (vs : List Nat) : wipeE ρ (v :: vs) = (wipeE ρ vs).set v none := rfl
@[simp] theorem getV_0 (d : D) (ρ : Env) : getV (some d :: ρ) 0 = .ok d := rfl
@[simp] theorem getV_s (o : Option D) (ρ : Env) (i : Nat) : getV (o :: ρ) (i + 1) = getV ρ i := rfl
@[simp] theorem lstV_0 (d : List D) (ρ : Env) : lstV (some (.lst d) :: ρ) 0 = .ok d := rfl
@[simp] theorem lstV_s (o : Option D) (ρ : Env) (i : Nat) : lstV (o :: ρ) (i + 1) = lstV ρ i := rfl
@[simp] theorem setV_0 (o : Option D) (ρ : Env) (d : D) : setV (o :: ρ) 0 d = some d :: ρ := rfl
@[simp] theorem setV_s (o : Option D) (ρ : Env) (i : Nat) (d : D) : setV (o :: ρ) (i + 1) d = o :: setV ρ i d := rfl
@[simp] theorem bin_add (i j : Int) : binD .add (.int i) (.int j) = .ok (.int (i + j)) := rfl
@[simp] theorem bin_sub (i j : Int) : binD .sub (.int i) (.int j) = .ok (.int (i - j)) := rfl
@[simp] theorem bin_mul (i j : Int) : binD .mul (.int i) (.int j) = .guard (mulOk i j) (.ok (.int (i * j))) := rfl
@[simp] theorem bin_fdiv (i j : Int) : binD .fdiv (.int i) (.int j) = .guard (divOk j) (.ok (.int (i.fdiv j))) := rfl
@[simp] theorem bin_mod (i j : Int) : binD .mod (.int i) (.int j) = .guard (decide (j ≠ 0)) (.ok (.int (i.fmod j))) := rfl
@[simp] theorem bin_pow (i j : Int) : binD .pow (.int i) (.int j) = .guard (powOk i j) (.ok (.int (i ^ j.toNat))) := rfl
@[simp] theorem bin_addL (x y : List D) : binD .add (.lst x) (.lst y) = .guard (decide (x.length + y.length ≤ Line)) (.ok (.lst (x ++ y))) := rfl
@[simp] theorem bin_addT (x y : List D) : binD .add (.tup x) (.tup y) = .guard (decide (x.length + y.length ≤ Line)) (.ok (.tup (x ++ y))) := rfl
@[simp] theorem cmp_lt (i j : Int) : cmpD .lt (.int i) (.int j) = .ok (.bl (decide (i < j))) := rfl
@[simp] theorem cmp_le (i j : Int) : cmpD .le (.int i) (.int j) = .ok (.bl (decide (i ≤ j))) := rfl
@[simp] theorem cmp_gt (i j : Int) : cmpD .gt (.int i) (.int j) = .ok (.bl (decide (j < i))) := rfl
@[simp] theorem cmp_ge (i j : Int) : cmpD .ge (.int i) (.int j) = .ok (.bl (decide (j ≤ i))) := rfl
theorem cmp_eq (x y : D) : cmpD .eq x y = (eqD x y).bind fun b => .ok (.bl b) := by cases x <;> rfl
theorem cmp_ne (x y : D) : cmpD .ne x y = (eqD x y).bind fun b => .ok (.bl (!b)) := by cases x <;> rfl
@[simp] theorem cmp_eqI (i j : Int) : cmpD .eq (.int i) (.int j) = .ok (.bl (decide (i = j))) := by
  rw [cmp_eq]
  have : eqD (.int i) (.int j) = .ok (decide (i = j)) := by
    unfold eqD eqOk
    simp only [D.py, PyData.plain, PyData.depth, PyData.eqv]
    show R.ok (i == j) = _
    rw [Bool.beq_eq_decide_eq]
  rw [this]; rfl
@[simp] theorem cmp_neI (i j : Int) : cmpD .ne (.int i) (.int j) = .ok (.bl (!decide (i = j))) := by
  rw [cmp_ne]
  have : eqD (.int i) (.int j) = .ok (decide (i = j)) := by
    unfold eqD eqOk
    simp only [D.py, PyData.plain, PyData.depth, PyData.eqv]
    show R.ok (i == j) = _
    rw [Bool.beq_eq_decide_eq]
  rw [this]; rfl
@[simp] theorem cmp_neB (i j : Bool) : cmpD .ne (.bl i) (.bl j) = .ok (.bl (!decide (i = j))) := by
  cases i <;> cases j <;> rfl
@[simp] theorem cmp_eqB (i j : Bool) : cmpD .eq (.bl i) (.bl j) = .ok (.bl (decide (i = j))) := by
  cases i <;> cases j <;> rfl
@[simp] theorem dctV_0 (ks : List Key) (d : List D) (ρ : Env) : dctV (some (.dct false ks d) :: ρ) 0 = .ok (ks, d) := rfl
@[simp] theorem dctV_s (o : Option D) (ρ : Env) (i : Nat) : dctV (o :: ρ) (i + 1) = dctV ρ i := rfl
@[simp] theorem dcTV_0 (ks : List (List Key)) (d : List D) (ρ : Env) : dcTV (some (.dcT ks d) :: ρ) 0 = .ok (ks, d) := rfl
@[simp] theorem dcTV_s (o : Option D) (ρ : Env) (i : Nat) : dcTV (o :: ρ) (i + 1) = dcTV ρ i := rfl
@[simp] theorem asDct_dct (f : Bool) (ks : List Key) (d : List D) : asDct (.dct f ks d) = .ok (.dct f ks d) := rfl
@[simp] theorem itemsD_dct (ks : List Key) (d : List D) : itemsD (.dct true ks d) = .ok (pairL ks d) := rfl
@[simp] theorem keyD_int (i : Int) : keyD (.int i) = some (.inl i) := rfl
@[simp] theorem dlD_int (i : Int) (y : D) : dlD (.int i) y = .ok (.dct true [.inl i] [y]) := rfl
@[simp] theorem dgD_int (f : Bool) (ks : List Key) (d : List D) (i : Int) (z : D) : dgD (.dct f ks d) (.int i) z = .ok ((lkD ks d (.inl i)).getD z) := rfl
@[simp] theorem ix_dct_int (f : Bool) (ks : List Key) (d : List D) (i : Int) : ixD (.dct f ks d) (.int i) = (match lkD ks d (.inl i) with | some z => .ok z | none => .bad) := rfl
@[simp] theorem in_dct (f : Bool) (ks : List Key) (d : List D) (i : Int) : cmpD .in_ (.int i) (.dct f ks d) = .ok (.bl (lkD ks d (.inl i)).isSome) := rfl
@[simp] theorem notin_dct (f : Bool) (ks : List Key) (d : List D) (i : Int) : cmpD .notin (.int i) (.dct f ks d) = .ok (.bl (!(lkD ks d (.inl i)).isSome)) := rfl
@[simp] theorem asBool_bl (b : Bool) : asBool (.bl b) = .ok b := rfl
@[simp] theorem asInt_int (b : Int) : asInt (.int b) = .ok b := rfl
@[simp] theorem items_lst (xs : List D) : items (.lst xs) = .ok xs := rfl
@[simp] theorem items_tup (xs : List D) : items (.tup xs) = .ok xs := rfl
@[simp] theorem itemsL_lst (xs : List D) : itemsL (.lst xs) = .ok xs := rfl
@[simp] theorem someR_some {α : Type} (a : α) : someR (some a) = .ok a := rfl
@[simp] theorem isNon_non : isNon .non = true := rfl
@[simp] theorem isNon_int (i : Int) : isNon (.int i) = false := rfl
@[simp] theorem isNon_tup (i : List D) : isNon (.tup i) = false := rfl
@[simp] theorem isNon_lst (i : List D) : isNon (.lst i) = false := rfl
@[simp] theorem isi_int_int (i : Int) : isiD .int (.int i) = .ok true := rfl
@[simp] theorem isi_bool_int (i : Int) : isiD .bool (.int i) = .ok false := rfl
@[simp] theorem isi_tuple_tup (i : List D) : isiD .tuple (.tup i) = .ok true := rfl
@[simp] theorem isi_list_lst (i : List D) : isiD .list (.lst i) = .ok true := rfl
@[simp] theorem bi_len_lst (xs : List D) : biD .len [.lst xs] = .ok (.int xs.length) := rfl
@[simp] theorem bi_len_tup (xs : List D) : biD .len [.tup xs] = .ok (.int xs.length) := rfl
@[simp] theorem bi_list_lst (xs : List D) : biD .list [.lst xs] = .ok (.lst xs) := rfl
@[simp] theorem bi_list_tup (xs : List D) : biD .list [.tup xs] = .ok (.lst xs) := rfl
@[simp] theorem bi_tuple_lst (xs : List D) : biD .tuple [.lst xs] = .ok (.tup xs) := rfl
@[simp] theorem bi_tuple_tup (xs : List D) : biD .tuple [.tup xs] = .ok (.tup xs) := rfl
@[simp] theorem bi_min2 (i j : Int) : biD .min2 [.int i, .int j] = .ok (.int (min i j)) := by
  show R.ok (D.int (if j < i then j else i)) = _
  congr 2; omega
@[simp] theorem bi_max2 (i j : Int) : biD .max2 [.int i, .int j] = .ok (.int (max i j)) := by
  show R.ok (D.int (if j > i then j else i)) = _
  congr 2; omega
/-- a tree of tests is pushed through what follows -/
@[simp] theorem bind_ite {α β : Type} (c : Prop) [Decidable c] (a b : R α) (f : α → R β) : (if c then a else b).bind f = if c then a.bind f else b.bind f := by split <;> rfl
@[simp] theorem thenO_ite {α : Type} (c : Prop) [Decidable c] (a b : R α) (ρ : Env) (f : α → O) : thenO (if c then a else b) ρ f = if c then thenO a ρ f else thenO b ρ f := by split <;> rfl
@[simp] theorem seqO_ite (c : Prop) [Decidable c] (a b : O) (f : Env → O) : seqO (if c then a else b) f = if c then seqO a f else seqO b f := by split <;> rfl
/-- the outcome of a def -/
def outO (fr : Bool) : O → R D
  | .ret z => .ok z
  | .nx _ => if fr then .bad else .ok .non
  | .exc c _ => .exc c
  | _ => .bad
theorem runF_eq (fn : Nat → List D → R D) (fu n : Nat) (fr : Bool) (body : Cmds) (zs : List D) : runF fn fu n fr body zs = outO fr (evCs fn fu body (initE n zs)) := by
  unfold runF outO
  cases evCs fn fu body (initE n zs) <;> rfl
@[simp] theorem out_ret (fr : Bool) (z : D) : outO fr (.ret z) = .ok z := rfl
@[simp] theorem out_exc (fr : Bool) (c : Nat) (ρ : Env) : outO fr (.exc c ρ) = .exc c := rfl
@[simp] theorem out_nx (ρ : Env) : outO false (.nx ρ) = .ok .non := rfl
@[simp] theorem out_ite (fr : Bool) (c : Prop) [Decidable c] (a b : O) : outO fr (if c then a else b) = if c then outO fr a else outO fr b := by split <;> rfl
/-! ### guards -/
theorem mulOk_of {i j : Int} (n m : Nat) (hi : i.natAbs < 2 ^ n) (hj : j.natAbs < 2 ^ m) (h : n + m ≤ 100000000 := by decide) : mulOk i j = true := by
  unfold mulOk
  rw [decide_eq_true_eq]
  have log : ∀ (k : Int) (a : Nat), k.natAbs < 2 ^ a → k.natAbs.log2 < a ∨ (k.natAbs.log2 = 0 ∧ a = 0) := fun k a hk => by
    by_cases h0 : k.natAbs = 0
    · rw [h0]
      cases a with
      | zero => exact .inr ⟨by decide, rfl⟩
      | succ a => exact .inl (by rw [show Nat.log2 0 = 0 by decide]; omega)
    · exact .inl ((Nat.log2_lt h0).mpr hk)
  rcases log i n hi with a | a <;> rcases log j m hj with b | b <;> omega
theorem divOk_of {j : Int} (h0 : j ≠ 0) (hj : j.natAbs < 2 ^ 8999) : divOk j = true := by
  unfold divOk
  rw [Bool.and_eq_true, decide_eq_true_eq, decide_eq_true_eq]
  refine ⟨h0, ?_⟩
  have : j.natAbs.log2 < 8999 := (Nat.log2_lt (by omega)).mpr hj
  omega
end Den
namespace Den
open PySem PySem.Spec PyProof.Rows L2
/-! ### loops and lists, by their meaning -/
@[simp] theorem forL_nil (f : Env → D → O) (ρ : Env) : forL f [] ρ = .nx ρ := rfl
theorem forL_nx {f : Env → D → O} {x : D} {r : List D} {ρ ρ' : Env} (h : f ρ x = .nx ρ') : forL f (x :: r) ρ = forL f r ρ' := by rw [forL, h]
theorem forL_cont {f : Env → D → O} {x : D} {r : List D} {ρ ρ' : Env} (h : f ρ x = .cont ρ') : forL f (x :: r) ρ = forL f r ρ' := by rw [forL, h]
theorem forL_brk {f : Env → D → O} {x : D} {r : List D} {ρ ρ' : Env} (h : f ρ x = .brk ρ') : forL f (x :: r) ρ = .nx ρ' := by rw [forL, h]
theorem forL_ret {f : Env → D → O} {x z : D} {r : List D} {ρ : Env} (h : f ρ x = .ret z) : forL f (x :: r) ρ = .ret z := by rw [forL, h]
/-- a loop that keeps an invariant and runs to its end -/
theorem forL_inv {f : Env → D → O} (P : Env → Prop) {xs : List D} (h : ∀ ρ x, P ρ → x ∈ xs → ∃ ρ', (f ρ x = .nx ρ' ∨ f ρ x = .cont ρ') ∧ P ρ') {ρ : Env} (h0 : P ρ) : ∃ ρ', forL f xs ρ = .nx ρ' ∧ P ρ' := by
  induction xs generalizing ρ with
  | nil => exact ⟨ρ, rfl, h0⟩
  | cons x r ih =>
    obtain ⟨ρ', e, p⟩ := h ρ x h0 (.head _)
    have k := ih (fun ρ y hp hy => h ρ y hp (.tail _ hy)) p
    rcases e with e | e
    · rw [forL_nx e]; exact k
    · rw [forL_cont e]; exact k
/-- a loop, by what is behind it and what is to come -/
theorem forL_to {f : Env → D → O} (P : List D → Env → Prop) : ∀ {xs : List D} (h : ∀ ρ x r, P (x :: r) ρ → ∃ ρ', (f ρ x = .nx ρ' ∨ f ρ x = .cont ρ') ∧ P r ρ') {ρ : Env}, P xs ρ → ∃ ρ', forL f xs ρ = .nx ρ' ∧ P [] ρ'
  | [], _, ρ, h0 => ⟨ρ, rfl, h0⟩
  | x :: r, h, ρ, h0 => by
    obtain ⟨ρ', e, p⟩ := h ρ x r h0
    have k := forL_to P h p
    rcases e with e | e
    · rw [forL_nx e]; exact k
    · rw [forL_cont e]; exact k
/-- a loop over a mapped list, each turn told by a function on what it holds -/
theorem forL_fold {α β : Type} {f : Env → D → O} (g : α → D) (E : β → Env) (st : β → α → β) (Q : β → Prop) : ∀ (xs : List α) (h : ∀ b, Q b → ∀ x ∈ xs, f (E b) (g x) = .nx (E (st b x)) ∧ Q (st b x)) (b : β), Q b → forL f (xs.map g) (E b) = .nx (E (xs.foldl st b)) ∧ Q (xs.foldl st b)
  | [], _, b, q => ⟨rfl, q⟩
  | x :: r, h, b, q => by
    have k := h b q x (.head _)
    rw [List.map_cons, forL_nx k.1, List.foldl_cons]
    exact forL_fold g E st Q r (fun b q y hy => h b q y (.tail _ hy)) _ k.2
theorem compL_map {f : D → R (Option D)} {g : D → D} : ∀ {xs : List D} (h : ∀ x ∈ xs, f x = .ok (some (g x))), compL f xs = .ok (xs.map g)
  | [], _ => rfl
  | x :: r, h => by
    rw [compL, h x (.head _), R.bind_ok, compL_map fun y hy => h y (.tail _ hy)]
    rfl
theorem compL_mapT {α : Type} {f : D → R (Option D)} (k : α → D) (g : α → D) : ∀ {xs : List α} (h : ∀ x ∈ xs, f (k x) = .ok (some (g x))), compL f (xs.map k) = .ok (xs.map g)
  | [], _ => rfl
  | x :: r, h => by
    rw [List.map_cons, compL, h x (.head _), R.bind_ok, compL_mapT k g fun y hy => h y (.tail _ hy)]
    rfl
theorem compL_filter {α : Type} {f : D → R (Option D)} (k : α → D) (p : α → Bool) (g : α → D) : ∀ {xs : List α} (h : ∀ x ∈ xs, f (k x) = .ok (if p x then some (g x) else none)), compL f (xs.map k) = .ok ((xs.filter p).map g)
  | [], _ => rfl
  | x :: r, h => by
    rw [List.map_cons, compL, h x (.head _), R.bind_ok, compL_filter k p g fun y hy => h y (.tail _ hy), R.bind_ok, List.filter_cons]
    cases p x <;> rfl
theorem upto_eq (lo : Int) (n : Nat) : upto lo n = (List.range n).map fun i => D.int (lo + (i : Nat)) := by
  induction n generalizing lo with
  | zero => rfl
  | succ n ih =>
    rw [upto, ih, List.range_succ_eq_map, List.map_cons, List.map_map]
    congr 1
    · simp
    · apply List.map_congr_left
      intro i _
      simp only [Function.comp]
      congr 1
      omega
theorem upto_map (lo : Int) (n : Nat) : upto lo n = ((List.range n).map fun i => lo + (i : Nat)).map D.int := by rw [upto_eq, List.map_map]; rfl
theorem mem_upto {x : D} {lo : Int} {n : Nat} (h : x ∈ upto lo n) : ∃ i : Nat, i < n ∧ x = .int (lo + i) := by
  rw [upto_eq] at h
  obtain ⟨i, hi, e⟩ := List.mem_map.mp h
  exact ⟨i, List.mem_range.mp hi, e.symm⟩
theorem mem_upto0 {x : D} {n : Int} (h : x ∈ upto 0 n.toNat) : ∃ i : Nat, (i : Int) < n ∧ x = .int i := by
  obtain ⟨i, h1, h2⟩ := mem_upto h
  exact ⟨i, by omega, by rw [h2, Int.zero_add]⟩
theorem ixN_of {n : Nat} {i : Int} (h0 : 0 ≤ i) (h : i < n) : ixN n i = some i.toNat := by rw [ixN, if_pos h0, if_pos h]
theorem ixN_neg {n : Nat} {i : Int} (h0 : i < 0) (h : -(n : Int) ≤ i) : ixN n i = some (i + n).toNat := by rw [ixN, if_neg (by omega), if_pos h]
/-- the part at a place -/
theorem ix_lst {xs : List D} {i : Int} {x : D} (h0 : 0 ≤ i) (h : xs[i.toNat]? = some x) : ixD (.lst xs) (.int i) = .ok x := by
  have := List.getElem?_eq_some_iff.mp h
  obtain ⟨k, _⟩ := this
  unfold ixD atI
  simp only
  rw [ixN_of h0 (by omega)]
  simp only [Option.bind_some, h]
theorem ix_tup {xs : List D} {i : Int} {x : D} (h0 : 0 ≤ i) (h : xs[i.toNat]? = some x) : ixD (.tup xs) (.int i) = .ok x := by
  have := List.getElem?_eq_some_iff.mp h
  obtain ⟨k, _⟩ := this
  unfold ixD atI
  simp only
  rw [ixN_of h0 (by omega)]
  simp only [Option.bind_some, h]
theorem ix_lstN {xs : List D} {i : Int} {x : D} (h0 : i < 0) (h1 : -(xs.length : Int) ≤ i) (h : xs[(i + xs.length).toNat]? = some x) : ixD (.lst xs) (.int i) = .ok x := by
  unfold ixD atI
  simp only
  rw [ixN_neg h0 h1]
  simp only [Option.bind_some, h]
theorem ix_tupN {xs : List D} {i : Int} {x : D} (h0 : i < 0) (h1 : -(xs.length : Int) ≤ i) (h : xs[(i + xs.length).toNat]? = some x) : ixD (.tup xs) (.int i) = .ok x := by
  unfold ixD atI
  simp only
  rw [ixN_neg h0 h1]
  simp only [Option.bind_some, h]
theorem ix_map {α : Type} {k : α → D} {xs : List α} {i : Nat} (h : i < xs.length) : ixD (.lst (xs.map k)) (.int i) = .ok (k xs[i]) :=
  ix_lst (by omega) (by simp [h])
theorem ix_ints {xs : List Int} {i : Int} (h0 : 0 ≤ i) (h : i < xs.length) : ixD (.lst (xs.map .int)) (.int i) = .ok (.int (xs.getD i.toNat 0)) :=
  ix_lst h0 (by
    have : i.toNat < xs.length := by omega
    simp [List.getD, this])
theorem ix_last {xs : List D} {x : D} (h : xs.getLast? = some x) : ixD (.lst xs) (.int (-1)) = .ok x := by
  rw [List.getLast?_eq_getElem?] at h
  have := (List.getElem?_eq_some_iff.mp h).1
  refine ix_lstN (by omega) (by omega) ?_
  rw [← h]; congr 1; omega
@[simp] theorem ix_tup0 (x : D) (r : List D) : ixD (.tup (x :: r)) (.int 0) = .ok x := ix_tup (by omega) rfl
@[simp] theorem ix_tup1 (y x : D) (r : List D) : ixD (.tup (y :: x :: r)) (.int 1) = .ok x := ix_tup (by omega) rfl
@[simp] theorem ix_tup2 (z y x : D) (r : List D) : ixD (.tup (z :: y :: x :: r)) (.int 2) = .ok x := ix_tup (by omega) rfl
@[simp] theorem ix_tup3 (w z y x : D) (r : List D) : ixD (.tup (w :: z :: y :: x :: r)) (.int 3) = .ok x := ix_tup (by omega) rfl
@[simp] theorem ix_lst0 (x : D) (r : List D) : ixD (.lst (x :: r)) (.int 0) = .ok x := ix_lst (by omega) rfl
@[simp] theorem ix_lst1 (y x : D) (r : List D) : ixD (.lst (y :: x :: r)) (.int 1) = .ok x := ix_lst (by omega) rfl
@[simp] theorem small62_nat {n : Nat} (h : n ≤ Line) : small62 n = true := by
  unfold small62
  have : (n : Int) ≤ 16777216 := by have : n ≤ 16777216 := h; omega
  rw [Bool.and_eq_true, decide_eq_true_eq, decide_eq_true_eq]
  omega
theorem small62_of {n : Int} (h : -(4611686018427387904 : Int) ≤ n) (h' : n < 4611686018427387904) : small62 n = true := by
  unfold small62
  rw [Bool.and_eq_true, decide_eq_true_eq, decide_eq_true_eq]
  omega
theorem line_le {n : Nat} (h : n ≤ 16777216) : decide (n ≤ Line) = true := decide_eq_true h
@[simp] theorem guard_dec {α : Type} {p : Prop} [Decidable p] (h : p) (r : R α) : R.guard (decide p) r = r := by rw [decide_eq_true h]; rfl
@[simp] theorem Line_eq : Line = 16777216 := rfl
theorem out_of {fr : Bool} {o : O} {z : D} (h : o = .ret z) : outO fr o = .ok z := by rw [h]; rfl
theorem out_of_exc {fr : Bool} {o : O} {c : Nat} {ρ : Env} (h : o = .exc c ρ) : outO fr o = .exc c := by rw [h]; rfl
/-! ### statements one by one, forth -/
section
variable {fn : Nat → List D → R D} {fu : Nat} {ρ : Env} {o : O} {r : Cmds}
theorem go_set {i : Nat} {e : Ex} {z : D} (h : ev fn e ρ = .ok z) (k : evCs fn fu r (setV ρ i z) = o) : evCs fn fu (.cons (.set i e) r) ρ = o := by
  rw [evCs_cons, evC_set, h]; exact k
theorem go_own {i : Nat} {e : Ex} {z : D} (h : ev fn e ρ = .ok z) (k : evCs fn fu r (setV ρ i z) = o) : evCs fn fu (.cons (.own i e) r) ρ = o := by
  rw [evCs_cons, evC_own, h]; exact k
theorem go_tgt {is : List Nat} {e : Ex} {z : D} {ρ' : Env} (h : ev fn e ρ = .ok z) (h' : bindT ρ (.many is) z = .ok ρ') (k : evCs fn fu r ρ' = o) : evCs fn fu (.cons (.tgt is e) r) ρ = o := by
  rw [evCs_cons, evC_tgt, h, thenO_ok, h']; exact k
theorem go_cmd {c : Cmd} {ρ' : Env} (h : evC fn fu c ρ = .nx ρ') (k : evCs fn fu r ρ' = o) : evCs fn fu (.cons c r) ρ = o := by
  rw [evCs_cons, h]; exact k
theorem go_t {c : Ex} {a b : Cmds} (h : ev fn c ρ = .ok (.bl true)) (k : seqO (evCs fn fu a ρ) (fun ρ' => evCs fn fu r ρ') = o) : evCs fn fu (.cons (.if_ c a b) r) ρ = o := by
  rw [evCs_cons, evC_if, h]; exact k
theorem go_f {c : Ex} {a b : Cmds} (h : ev fn c ρ = .ok (.bl false)) (k : seqO (evCs fn fu b ρ) (fun ρ' => evCs fn fu r ρ') = o) : evCs fn fu (.cons (.if_ c a b) r) ρ = o := by
  rw [evCs_cons, evC_if, h]; exact k
theorem go_f0 {c : Ex} {a : Cmds} (h : ev fn c ρ = .ok (.bl false)) (k : evCs fn fu r ρ = o) : evCs fn fu (.cons (.if_ c a .nil) r) ρ = o := by
  rw [evCs_cons, evC_if, h]; exact k
theorem go_tr {c e : Ex} {b q : Cmds} {z : D} (h : ev fn c ρ = .ok (.bl true)) (k : ev fn e ρ = .ok z) : evCs fn fu (.cons (.if_ c (.cons (.ret e) q) b) r) ρ = .ret z := by
  rw [evCs_cons, evC_if, h]
  show seqO (seqO (thenO (ev fn e ρ) ρ fun z => .ret z) _) _ = _
  rw [k]; rfl
theorem go_for {it : Itr} {tg : Tg} {body : Cmds} {xs : List D} {ρ' : Env} (h : evi fn it ρ = .ok xs) (l : forL (fun ρ x => thenO (bindT ρ tg x) ρ fun ρ' => evCs fn fu body ρ') xs ρ = .nx ρ') (k : evCs fn fu r ρ' = o) : evCs fn fu (.cons (.for_ it tg body) r) ρ = o := by
  rw [evCs_cons, evC_for, h, thenO_ok, l]; exact k
theorem go_while {c : Ex} {body : Cmds} {ρ' : Env} (l : whL (fun ρ => ev fn c ρ) (fun ρ => evCs fn fu body ρ) fu ρ = .nx ρ') (k : evCs fn fu r ρ' = o) : evCs fn fu (.cons (.while_ c body) r) ρ = o := by
  rw [evCs_cons, evC_while, l]; exact k
theorem go_ret {e : Ex} {z : D} (h : ev fn e ρ = .ok z) : evCs fn fu (.cons (.ret e) r) ρ = .ret z := by
  rw [evCs_cons, evC_ret, h]; rfl
theorem go_retM {i : Nat} {z : D} (h : getV ρ i = .ok z) : evCs fn fu (.cons (.retM i) r) ρ = .ret z := by
  rw [evCs_cons, evC_retM, h]; rfl
end
/-- a comprehension's list -/
theorem ev_comp_ok {fn : Nat → List D → R D} {it : Itr} {tg : Tg} {own : List Nat} {e : Ex} {ρ : Env} {xs zs : List D} (h : evi fn it ρ = .ok xs) (hl : xs.length ≤ 16777216)
    (k : compL (fun x => (bindT (wipeE ρ own) tg x).bind fun ρ' => (ev fn e ρ').bind fun d => .ok (some d)) xs = .ok zs) : ev fn (.comp it tg own e) ρ = .ok (.lst zs) := by
  rw [ev_comp, h, R.bind_ok, line_le hl, R.guard_true, k]; rfl
theorem ev_compIf_ok {fn : Nat → List D → R D} {it : Itr} {tg : Tg} {own : List Nat} {c e : Ex} {ρ : Env} {xs zs : List D} (h : evi fn it ρ = .ok xs) (hl : xs.length ≤ 16777216)
    (k : compL (fun x => (bindT (wipeE ρ own) tg x).bind fun ρ' => (ev fn c ρ').bind fun t => (asBool t).bind fun k => if k then (ev fn e ρ').bind fun d => .ok (some d) else .ok none) xs = .ok zs) : ev fn (.compIf it tg own c e) ρ = .ok (.lst zs) := by
  rw [ev_compIf, h, R.bind_ok, line_le hl, R.guard_true, k]; rfl
@[simp] theorem bind_one (ρ : Env) (i : Nat) (d : D) : bindT ρ (.one i) d = .ok (setV ρ i d) := rfl
@[simp] theorem bind_many (ρ : Env) (is : List Nat) (ds : List D) (h : ds.length = is.length) : bindT ρ (.many is) (.tup ds) = setVs ρ is ds := by
  unfold bindT; simp only; rw [decide_eq_true h]; rfl
@[simp] theorem bind_manyL (ρ : Env) (is : List Nat) (ds : List D) (h : ds.length = is.length) : bindT ρ (.many is) (.lst ds) = setVs ρ is ds := by
  unfold bindT; simp only; rw [decide_eq_true h]; rfl
@[simp] theorem setVs_nil (ρ : Env) : setVs ρ [] [] = .ok ρ := rfl
@[simp] theorem setVs_cons (ρ : Env) (i : Nat) (is : List Nat) (d : D) (ds : List D) : setVs ρ (i :: is) (d :: ds) = setVs (setV ρ i d) is ds := rfl
/-! ### defs looked up -/
theorem fnL_at {fu : Nat} {d : DefM} {r : List DefM} : fnL fu (d :: r) d.id = runF (fnL fu r) fu d.N.length d.fr d.body := by rw [fnL, if_pos rfl]
/-! ### loops over a written list -/
def loopO (o : O) (k : Env → O) : O := match o with
  | .nx ρ => k ρ
  | .cont ρ => k ρ
  | .brk ρ => .nx ρ
  | o => o
theorem forL_cons (f : Env → D → O) (x : D) (r : List D) (ρ : Env) : forL f (x :: r) ρ = loopO (f ρ x) fun ρ' => forL f r ρ' := by
  rw [forL]; cases f ρ x <;> rfl
@[simp] theorem loopO_nx (ρ : Env) (k : Env → O) : loopO (.nx ρ) k = k ρ := rfl
@[simp] theorem loopO_cont (ρ : Env) (k : Env → O) : loopO (.cont ρ) k = k ρ := rfl
@[simp] theorem loopO_brk (ρ : Env) (k : Env → O) : loopO (.brk ρ) k = .nx ρ := rfl
@[simp] theorem loopO_ret (z : D) (k : Env → O) : loopO (.ret z) k = .ret z := rfl
@[simp] theorem loopO_exc (c : Nat) (ρ : Env) (k : Env → O) : loopO (.exc c ρ) k = .exc c ρ := rfl
/-! ### quotients -/
theorem fdiv_pos {a b : Int} (h : 0 < b) : a.fdiv b = a / b := Int.fdiv_eq_ediv_of_nonneg a (by omega)
theorem fmod_pos {a b : Int} (h : 0 < b) : a.fmod b = a % b := Int.fmod_eq_emod_of_nonneg a (by omega)
theorem fdv_bounds {a b : Int} (h : 0 < b) : a.fdiv b * b ≤ a ∧ a < (a.fdiv b + 1) * b := by
  rw [fdiv_pos h]
  have h1 := Int.mul_ediv_add_emod a b
  have h2 := Int.emod_nonneg a (show b ≠ 0 by omega)
  have h3 := Int.emod_lt_of_pos a h
  rw [Int.mul_comm] at h1
  rw [Int.add_mul, Int.one_mul]
  generalize a / b * b = z at *
  constructor <;> omega
theorem fmod_bounds {a b : Int} (h : 0 < b) : 0 ≤ a.fmod b ∧ a.fmod b < b := by
  rw [fmod_pos h]
  exact ⟨Int.emod_nonneg a (by omega), Int.emod_lt_of_pos a h⟩
/-- the quotient's size -/
theorem fdv_size {a b : Int} (h : 0 < b) : (a.fdiv b).natAbs ≤ a.natAbs + 1 := by
  obtain ⟨h1, h2⟩ := fdv_bounds (a := a) h
  generalize a.fdiv b = q at *
  rcases Int.lt_or_le q 0 with q0 | q0
  · have : (q + 1) * b ≤ q + 1 := by
      have := Int.mul_nonneg (show 0 ≤ -(q + 1) by omega) (show 0 ≤ b - 1 by omega)
      rw [Int.mul_sub, Int.mul_one, Int.neg_mul] at this
      omega
    omega
  · have : q ≤ q * b := by
      have := Int.mul_nonneg q0 (show 0 ≤ b - 1 by omega)
      rw [Int.mul_sub, Int.mul_one] at this
      omega
    omega
/-! ### sizes -/
theorem abs_mul {a b : Int} {n m : Nat} (ha : a.natAbs ≤ n) (hb : b.natAbs ≤ m) : (a * b).natAbs ≤ n * m := by rw [Int.natAbs_mul]; exact Nat.mul_le_mul ha hb
theorem divOk_lit {j : Int} (h : 0 < j) (h' : j < 2 ^ 400) : divOk j = true := divOk_of (by omega) (by omega)
theorem mulOk_lit {i j : Int} (h1 : -(2 ^ 900) < i) (h2 : i < 2 ^ 900) (h3 : -(2 ^ 900) < j) (h4 : j < 2 ^ 900) : mulOk i j = true := mulOk_of 900 900 (by omega) (by omega)
end Den
namespace Den
/-! ### stretches and what they cost -/
/-- a stretch: its ends, its price at the low, its step -/
structure Q where
  lo : Int
  hi : Int
  pr : Int
  st : Int
  deriving DecidableEq
def Q.at (q : Q) (x : Int) : Int := q.pr + q.st * (x - q.lo)
/-- an amount's cost by stretches -/
def costQ : List Q → Int → Option Int
  | [], _ => none
  | q :: r, x => if q.lo ≤ x ∧ x ≤ q.hi then some (q.at x) else costQ r x
def cntQ : List Q → Int
  | [] => 0
  | q :: r => q.hi - q.lo + 1 + cntQ r
@[simp] theorem Q.at_lo (q : Q) : q.at q.lo = q.pr := by simp [Q.at]
theorem Q.at_succ (q : Q) (x : Int) : q.at (x + 1) = q.at x + q.st := by
  unfold Q.at
  rw [show x + 1 - q.lo = (x - q.lo) + 1 by omega, Int.mul_add, Int.mul_one]; omega
theorem Q.at_add (q : Q) (x y : Int) : q.at (x + y) = q.at x + q.st * y := by
  unfold Q.at
  rw [show x + y - q.lo = (x - q.lo) + y by omega, Int.mul_add]; omega
theorem Q.at_sub (q : Q) (x y : Int) : q.at x = q.at y + q.st * (x - y) := by
  rw [← q.at_add y (x - y)]; congr 1; omega
theorem costQ_app (r s : List Q) (x : Int) : costQ (r ++ s) x = (costQ r x).or (costQ s x) := by
  induction r with
  | nil => rfl
  | cons q r ih =>
    rw [List.cons_append, costQ, costQ, ih]
    split <;> rfl
theorem costQ_none {l : List Q} {x : Int} (h : ∀ q ∈ l, ¬ (q.lo ≤ x ∧ x ≤ q.hi)) : costQ l x = none := by
  induction l with
  | nil => rfl
  | cons q r ih => rw [costQ, if_neg (h q (.head _)), ih fun q hq => h q (.tail _ hq)]
theorem costQ_some {l : List Q} {x z : Int} (h : costQ l x = some z) : ∃ q ∈ l, q.lo ≤ x ∧ x ≤ q.hi ∧ z = q.at x := by
  induction l with
  | nil => cases h
  | cons q r ih =>
    rw [costQ] at h
    split at h
    · rename_i c; exact ⟨q, .head _, c.1, c.2, by cases h; rfl⟩
    · obtain ⟨p, h1, h2⟩ := ih h; exact ⟨p, .tail _ h1, h2⟩
theorem costQ_isSome {l : List Q} {x : Int} : (costQ l x).isSome = true ↔ ∃ q ∈ l, q.lo ≤ x ∧ x ≤ q.hi := by
  constructor
  · intro h
    cases e : costQ l x with
    | none => rw [e] at h; cases h
    | some z => obtain ⟨q, h1, h2, h3, _⟩ := costQ_some e; exact ⟨q, h1, h2, h3⟩
  · rintro ⟨q, h1, h2⟩
    cases e : costQ l x with
    | some z => rfl
    | none =>
      exfalso
      induction l with
      | nil => cases h1
      | cons a r ih =>
        rw [costQ] at e
        split at e
        · cases e
        · rename_i hn
          rcases List.mem_cons.mp h1 with q | q
          · subst q; exact hn h2
          · exact ih q e
theorem cntQ_app (r s : List Q) : cntQ (r ++ s) = cntQ r + cntQ s := by
  induction r with
  | nil => simp [cntQ]
  | cons q r ih => rw [List.cons_append, cntQ, cntQ, ih]; omega
/-- each behind the one ahead -/
structure Asc (l : List Q) : Prop where
  w : ∀ q ∈ l, q.lo ≤ q.hi
  p : l.Pairwise fun a b => a.hi < b.lo
theorem Asc.nil : Asc [] := ⟨(fun _ h => nomatch h), .nil⟩
theorem Asc.one {q : Q} (h : q.lo ≤ q.hi) : Asc [q] := ⟨fun p hp => by rw [List.mem_singleton.mp hp]; exact h, List.pairwise_singleton _ _⟩
theorem asc_cons {q : Q} {r : List Q} : Asc (q :: r) ↔ q.lo ≤ q.hi ∧ (∀ b ∈ r, q.hi < b.lo) ∧ Asc r := by
  constructor
  · intro h
    obtain ⟨h1, h2⟩ := List.pairwise_cons.mp h.p
    exact ⟨h.w q (.head _), h1, fun b hb => h.w b (.tail _ hb), h2⟩
  · rintro ⟨h1, h2, h3⟩
    exact ⟨fun b hb => by
      rcases List.mem_cons.mp hb with e | e
      · rw [e]; exact h1
      · exact h3.w b e, List.pairwise_cons.mpr ⟨h2, h3.p⟩⟩
theorem Asc.tail {q : Q} {r : List Q} (h : Asc (q :: r)) : Asc r := (asc_cons.mp h).2.2
theorem asc_app {r s : List Q} : Asc (r ++ s) ↔ Asc r ∧ Asc s ∧ ∀ a ∈ r, ∀ b ∈ s, a.hi < b.lo := by
  constructor
  · intro h
    obtain ⟨h1, h2, h3⟩ := List.pairwise_append.mp h.p
    exact ⟨⟨fun q hq => h.w q (List.mem_append_left _ hq), h1⟩, ⟨fun q hq => h.w q (List.mem_append_right _ hq), h2⟩, h3⟩
  · rintro ⟨h1, h2, h3⟩
    exact ⟨fun q hq => by
      rcases List.mem_append.mp hq with e | e
      · exact h1.w q e
      · exact h2.w q e, List.pairwise_append.mpr ⟨h1.p, h2.p, h3⟩⟩
theorem asc_snoc {r : List Q} {b : Q} : Asc (r ++ [b]) ↔ Asc r ∧ b.lo ≤ b.hi ∧ ∀ a ∈ r, a.hi < b.lo := by
  rw [asc_app]
  constructor
  · rintro ⟨h1, h2, h3⟩
    exact ⟨h1, h2.w b (.head _), fun a ha => h3 a ha b (.head _)⟩
  · rintro ⟨h1, h2, h3⟩
    exact ⟨h1, .one h2, fun a ha c hc => by rw [List.mem_singleton.mp hc]; exact h3 a ha⟩
theorem Asc.cost_mem {l : List Q} (h : Asc l) {q : Q} (hq : q ∈ l) {x : Int} (h1 : q.lo ≤ x) (h2 : x ≤ q.hi) : costQ l x = some (q.at x) := by
  induction l with
  | nil => cases hq
  | cons a r ih =>
    obtain ⟨k1, k2, k3⟩ := asc_cons.mp h
    rw [costQ]
    rcases List.mem_cons.mp hq with e | e
    · subst e; rw [if_pos ⟨h1, h2⟩]
    · rw [if_neg (by have := k2 q e; omega)]
      exact ih k3 e
theorem Asc.cost_lt {q : Q} {r : List Q} (h : Asc (q :: r)) {x : Int} (hx : x < q.lo) : costQ (q :: r) x = none := by
  obtain ⟨h1, h2, h3⟩ := asc_cons.mp h
  refine costQ_none fun b hb => ?_
  rcases List.mem_cons.mp hb with e | e
  · subst e; omega
  · have := h2 b e; omega
theorem Asc.tail_le {q : Q} {r : List Q} (h : Asc (q :: r)) {x : Int} (hx : x ≤ q.hi) : costQ r x = none := by
  obtain ⟨h1, h2, h3⟩ := asc_cons.mp h
  exact costQ_none fun b hb => by have := h2 b hb; omega
/-- the next stretch of a form -/
def Q.nxt (a b : Q) : Prop := a.hi < b.lo ∧ (b.lo = a.hi + 1 → a.lo ≠ a.hi ∧ b.pr ≠ a.at b.lo)
/-- a form -/
structure Can (l : List Q) : Prop where
  w : ∀ q ∈ l, q.lo ≤ q.hi
  z : ∀ q ∈ l, q.lo = q.hi → q.st = 0
  p : l.Pairwise Q.nxt
theorem Can.asc {l : List Q} (h : Can l) : Asc l := ⟨h.w, h.p.imp fun h => h.1⟩
theorem Can.nil : Can [] := ⟨(fun _ h => nomatch h), (fun _ h => nomatch h), .nil⟩
theorem Can.tail {q : Q} {r : List Q} (h : Can (q :: r)) : Can r := ⟨fun b hb => h.w b (.tail _ hb), fun b hb => h.z b (.tail _ hb), (List.pairwise_cons.mp h.p).2⟩
theorem Can.one {q : Q} (h : q.lo ≤ q.hi) (h2 : q.lo = q.hi → q.st = 0) : Can [q] :=
  ⟨fun p hp => by rw [List.mem_singleton.mp hp]; exact h, fun p hp => by rw [List.mem_singleton.mp hp]; exact h2, List.pairwise_singleton _ _⟩
theorem Can.init {r s : List Q} (h : Can (r ++ s)) : Can r := ⟨fun b hb => h.w b (List.mem_append_left _ hb), fun b hb => h.z b (List.mem_append_left _ hb), (List.pairwise_append.mp h.p).1⟩
theorem Can.snoc {r : List Q} {a b : Q} (h : Can (r ++ [a])) (n : a.nxt b) (h1 : b.lo ≤ b.hi) (h2 : b.lo = b.hi → b.st = 0) : Can (r ++ [a] ++ [b]) := by
  obtain ⟨k1, k2, k3⟩ := List.pairwise_append.mp h.p
  refine ⟨fun q hq => ?_, fun q hq => ?_, List.pairwise_append.mpr ⟨h.p, List.pairwise_singleton _ _, fun x hx y hy => ?_⟩⟩
  · rcases List.mem_append.mp hq with e | e
    · exact h.w q e
    · rw [List.mem_singleton.mp e]; exact h1
  · rcases List.mem_append.mp hq with e | e
    · exact h.z q e
    · rw [List.mem_singleton.mp e]; exact h2
  · rw [List.mem_singleton.mp hy]
    rcases List.mem_append.mp hx with e | e
    · have h3 := (k3 x e a (.head _)).1
      have h4 := h.w a (by simp)
      have h5 := n.1
      exact ⟨by omega, fun h6 => by omega⟩
    · rw [List.mem_singleton.mp e]; exact n
/-- two forms that cost the same are the same -/
theorem can_uniq : ∀ {a b : List Q}, Can a → Can b → (∀ x, costQ a x = costQ b x) → a = b := by
  have head : ∀ {q s : Q} {r t : List Q}, Can (q :: r) → Can (s :: t) → (∀ x, costQ (q :: r) x = costQ (s :: t) x) → s.lo ≤ q.lo := by
    intro q s r t ha hb h
    have h1 := ha.asc.cost_mem (.head _) (Int.le_refl q.lo) (ha.w q (.head _))
    rw [h] at h1
    apply Int.not_lt.mp
    intro hlt
    rw [hb.asc.cost_lt hlt] at h1
    cases h1
  have step : ∀ {q s : Q} {r t : List Q}, Can (q :: r) → Can (s :: t) → (∀ x, costQ (q :: r) x = costQ (s :: t) x) → q.lo = s.lo → q.pr = s.pr → s.hi ≤ q.hi := by
    intro q s r t ha hb h e1 e2
    apply Int.not_lt.mp
    intro hlt
    have wq := ha.w q (.head _)
    have h1 := hb.asc.cost_mem (.head _) (x := q.hi + 1) (by omega) (by omega)
    rw [← h] at h1
    obtain ⟨p, hp, p1, p2, p3⟩ := costQ_some h1
    rcases List.mem_cons.mp hp with e | e
    · subst e; omega
    · have n := (List.pairwise_cons.mp ha.p).1 p e
      have hlo : p.lo = q.hi + 1 := by have := n.1; omega
      obtain ⟨n1, n2⟩ := n.2 hlo
      have k1 := ha.asc.cost_mem (.head _) (x := q.lo + 1) (by omega) (by omega)
      have k2 := hb.asc.cost_mem (.head _) (x := q.lo + 1) (by omega) (by omega)
      rw [h, k2] at k1
      have k1 := Option.some.inj k1
      unfold Q.at at k1 n2 p3
      rw [show q.lo + 1 - q.lo = 1 by omega, show q.lo + 1 - s.lo = 1 by omega] at k1
      have es : s.st = q.st := by omega
      rw [show q.hi + 1 - p.lo = 0 by omega, Int.mul_zero, es, ← e1, ← e2] at p3
      rw [hlo] at n2
      omega
  intro a
  induction a with
  | nil =>
    intro b _ hb h
    cases b with
    | nil => rfl
    | cons s t =>
      have := h s.lo
      rw [hb.asc.cost_mem (.head _) (Int.le_refl _) (hb.w s (.head _))] at this
      cases this
  | cons q r ih =>
    intro b ha hb h
    cases b with
    | nil =>
      have := h q.lo
      rw [ha.asc.cost_mem (.head _) (Int.le_refl _) (ha.w q (.head _))] at this
      cases this
    | cons s t =>
      have wq := ha.w q (.head _)
      have ws := hb.w s (.head _)
      have e1 : q.lo = s.lo := Int.le_antisymm (head hb ha fun x => (h x).symm) (head ha hb h)
      have e2 : q.pr = s.pr := by
        have k := h q.lo
        rw [ha.asc.cost_mem (.head _) (Int.le_refl _) wq, hb.asc.cost_mem (.head _) (x := q.lo) (by omega) (by omega)] at k
        have k := Option.some.inj k
        rw [e1] at k
        rwa [← e1, Q.at_lo, e1, Q.at_lo] at k
      have e3 : q.hi = s.hi := Int.le_antisymm (step hb ha (fun x => (h x).symm) e1.symm e2.symm) (step ha hb h e1 e2)
      have e4 : q.st = s.st := by
        by_cases hw : q.lo = q.hi
        · rw [ha.z q (.head _) hw, hb.z s (.head _) (by omega)]
        · have k := h (q.lo + 1)
          rw [ha.asc.cost_mem (.head _) (x := q.lo + 1) (by omega) (by omega), hb.asc.cost_mem (.head _) (x := q.lo + 1) (by omega) (by omega)] at k
          have k := Option.some.inj k
          unfold Q.at at k
          rw [show q.lo + 1 - q.lo = 1 by omega, show q.lo + 1 - s.lo = 1 by omega] at k
          omega
      have e : q = s := by cases q; cases s; simp at e1 e2 e3 e4; simp [e1, e2, e3, e4]
      subst e
      congr 1
      refine ih ha.tail hb.tail fun x => ?_
      by_cases hx : x ≤ q.hi
      · rw [ha.asc.tail_le hx, hb.asc.tail_le hx]
      · have := h x
        rwa [costQ, costQ, if_neg (by omega), if_neg (by omega)] at this
/-! ### sizes -/
structure Q.bd (N : Nat) (q : Q) : Prop where
  lo : q.lo.natAbs ≤ N
  hi : q.hi.natAbs ≤ N
  pr : q.pr.natAbs ≤ N
  st : q.st.natAbs ≤ N
  en : (q.at q.hi).natAbs ≤ N
def Bd (N : Nat) (l : List Q) : Prop := ∀ q ∈ l, q.bd N
theorem Q.bd.mono {N M : Nat} {q : Q} (h : q.bd N) (k : N ≤ M) : q.bd M := ⟨Nat.le_trans h.lo k, Nat.le_trans h.hi k, Nat.le_trans h.pr k, Nat.le_trans h.st k, Nat.le_trans h.en k⟩
theorem Bd.mono {N M : Nat} {l : List Q} (h : Bd N l) (k : N ≤ M) : Bd M l := fun q hq => (h q hq).mono k
theorem Bd.nil {N : Nat} : Bd N [] := fun _ h => nomatch h
theorem bd_cons {N : Nat} {q : Q} {l : List Q} : Bd N (q :: l) ↔ q.bd N ∧ Bd N l :=
  ⟨fun h => ⟨h q (.head _), fun b hb => h b (.tail _ hb)⟩, fun h b hb => by
    rcases List.mem_cons.mp hb with e | e
    · rw [e]; exact h.1
    · exact h.2 b e⟩
theorem bd_app {N : Nat} {l r : List Q} : Bd N (l ++ r) ↔ Bd N l ∧ Bd N r :=
  ⟨fun h => ⟨fun b hb => h b (List.mem_append_left _ hb), fun b hb => h b (List.mem_append_right _ hb)⟩, fun h b hb => by
    rcases List.mem_append.mp hb with e | e
    · exact h.1 b e
    · exact h.2 b e⟩
/-- between a stretch's ends the cost is between those of the ends -/
theorem Q.at_between {q : Q} {x : Int} (h1 : q.lo ≤ x) (h2 : x ≤ q.hi) : (q.pr ≤ q.at x ∧ q.at x ≤ q.at q.hi) ∨ (q.at q.hi ≤ q.at x ∧ q.at x ≤ q.pr) := by
  have e : q.at q.hi = q.at x + q.st * (q.hi - x) := Q.at_sub q q.hi x
  have a : q.at x = q.pr + q.st * (x - q.lo) := rfl
  rcases Int.le_total 0 q.st with h | h
  · have z1 := Int.mul_nonneg h (show 0 ≤ x - q.lo by omega)
    have z2 := Int.mul_nonneg h (show 0 ≤ q.hi - x by omega)
    exact .inl ⟨by omega, by omega⟩
  · have z1 := Int.mul_nonneg (show 0 ≤ -q.st by omega) (show 0 ≤ x - q.lo by omega)
    have z2 := Int.mul_nonneg (show 0 ≤ -q.st by omega) (show 0 ≤ q.hi - x by omega)
    rw [Int.neg_mul] at z1 z2
    exact .inr ⟨by omega, by omega⟩
theorem Q.bd.at {N : Nat} {q : Q} (h : q.bd N) {x : Int} (h1 : q.lo ≤ x) (h2 : x ≤ q.hi) : (q.at x).natAbs ≤ N := by
  have a := h.pr; have b := h.en
  rcases Q.at_between h1 h2 with ⟨k1, k2⟩ | ⟨k1, k2⟩ <;> omega
theorem Bd.cost {N : Nat} {l : List Q} (h : Bd N l) {x z : Int} (e : costQ l x = some z) : z.natAbs ≤ N := by
  obtain ⟨q, h1, h2, h3, rfl⟩ := costQ_some e
  exact (h q h1).at h2 h3
/-- a part of a stretch -/
theorem Q.bd.sub {N : Nat} {q : Q} (h : q.bd N) {a b : Int} (h1 : q.lo ≤ a) (h2 : a ≤ b) (h3 : b ≤ q.hi) : Q.bd N ⟨a, b, q.at a, q.st⟩ := by
  have x := h.lo; have y := h.hi
  refine ⟨?_, ?_, h.at h1 (by omega), h.st, ?_⟩
  · show a.natAbs ≤ N; omega
  · show b.natAbs ≤ N; omega
  · show (q.at a + q.st * (b - a)).natAbs ≤ N
    rw [← Q.at_sub]; exact h.at (by omega) h3
theorem sub_at (q : Q) (a b x : Int) : Q.at ⟨a, b, q.at a, q.st⟩ x = q.at x := (Q.at_sub q x a).symm
/-! ### laid -/
def Q.beg (q : Q) : Q := if q.lo = q.hi then ⟨q.lo, q.hi, q.pr, 0⟩ else q
def joinB (a b : Q) : Bool := decide (a.hi = b.lo - 1) && (decide (a.lo = a.hi) || decide (a.at b.lo = b.pr))
def ownQ (a b : Q) : Int := if a.lo = a.hi then b.pr - a.pr else a.st
/-- one row laid behind what is told -/
def putQ (r : List Q) (a b : Q) : List Q := if joinB a b then (if b.lo = b.hi ∨ b.st = ownQ a b then r ++ [⟨a.lo, b.hi, a.pr, ownQ a b⟩] else r ++ [⟨a.lo, b.lo, a.pr, ownQ a b⟩] ++ [Q.beg ⟨b.lo + 1, b.hi, b.pr + b.st, b.st⟩]) else r ++ [a] ++ [b.beg]
def layQ (told : List Q) (b : Q) : List Q := match told.getLast? with
  | none => [b.beg]
  | some a => putQ told.dropLast a b
def laidQ (rows : List Q) : List Q := rows.foldl layQ []
theorem layQ_nil (b : Q) : layQ [] b = [b.beg] := rfl
theorem layQ_snoc (r : List Q) (a b : Q) : layQ (r ++ [a]) b = putQ r a b := by
  unfold layQ
  rw [List.getLast?_append]
  simp
theorem beg_lo (q : Q) : q.beg.lo = q.lo ∧ q.beg.hi = q.hi ∧ q.beg.pr = q.pr := by unfold Q.beg; split <;> exact ⟨rfl, rfl, rfl⟩
theorem beg_z (q : Q) : q.beg.lo = q.beg.hi → q.beg.st = 0 := by
  unfold Q.beg; split
  · intro _; rfl
  · intro h; exact absurd h (by assumption)
theorem beg_at (q : Q) {x : Int} (h1 : q.lo ≤ x) (h2 : x ≤ q.hi) : q.beg.at x = q.at x := by
  unfold Q.beg
  split
  · unfold Q.at; simp only; rw [show x - q.lo = 0 by omega]; simp
  · rfl
theorem beg_cost (q : Q) (x : Int) : costQ [q.beg] x = costQ [q] x := by
  simp only [costQ, (beg_lo q).1, (beg_lo q).2.1]
  split
  · rename_i h; rw [beg_at q h.1 h.2]
  · rfl
theorem own_on {a b : Q} (h : joinB a b = true) : a.hi = b.lo - 1 ∧ a.pr + ownQ a b * (b.lo - a.lo) = b.pr ∧ ∀ y, a.lo ≤ y → y ≤ a.hi → a.pr + ownQ a b * (y - a.lo) = a.at y := by
  unfold joinB at h
  simp only [Bool.and_eq_true, Bool.or_eq_true, decide_eq_true_eq] at h
  obtain ⟨j1, j2⟩ := h
  refine ⟨j1, ?_, fun y h1 h2 => ?_⟩
  · unfold ownQ
    split
    · rename_i h; rw [show b.lo - a.lo = 1 by omega]; omega
    · rename_i h; exact j2.resolve_left h
  · unfold ownQ
    split
    · unfold Q.at; rw [show y - a.lo = 0 by omega, Int.mul_zero, Int.mul_zero]
    · rfl
theorem put_cost (r : List Q) (a b : Q) (x : Int) (ha : a.lo ≤ a.hi) (hb : b.lo ≤ b.hi) : costQ (putQ r a b) x = costQ (r ++ [a] ++ [b]) x := by
  unfold putQ
  cases hj : joinB a b
  · simp only [Bool.false_eq_true, if_false]
    rw [costQ_app (r ++ [a]), costQ_app (r ++ [a]), beg_cost]
  · simp only [if_true]
    obtain ⟨j1, on, ina⟩ := own_on hj
    generalize ownQ a b = w at *
    split
    · rename_i hs
      rw [List.append_assoc, costQ_app, costQ_app r]
      cases costQ r x with
      | some z => rfl
      | none =>
        simp only [costQ, List.cons_append, List.nil_append, Option.none_or]
        by_cases h1 : a.lo ≤ x ∧ x ≤ a.hi
        · rw [if_pos h1, if_pos (by omega)]
          show some (a.pr + w * (x - a.lo)) = _
          rw [ina x h1.1 h1.2]
        · rw [if_neg h1]
          by_cases h2 : b.lo ≤ x ∧ x ≤ b.hi
          · rw [if_pos h2, if_pos (by omega)]
            show some (a.pr + w * (x - a.lo)) = some (b.pr + b.st * (x - b.lo))
            rw [← on]
            congr 1
            rcases hs with hs | hs
            · rw [show x = b.lo by omega, Int.sub_self, Int.mul_zero]; omega
            · rw [hs, Int.add_assoc, ← Int.mul_add]; congr 2; omega
          · rw [if_neg h2, if_neg (by omega)]
    · rename_i hs
      rw [List.append_assoc, List.append_assoc, costQ_app, costQ_app r]
      cases costQ r x with
      | some z => rfl
      | none =>
        simp only [Option.none_or]
        show costQ ([_] ++ [_]) x = costQ ([a] ++ [b]) x
        rw [costQ_app, beg_cost]
        simp only [costQ, List.cons_append, List.nil_append]
        by_cases h1 : a.lo ≤ x ∧ x ≤ a.hi
        · rw [if_pos h1, if_pos (by omega), Option.some_or]
          show some (a.pr + w * (x - a.lo)) = _
          rw [ina x h1.1 h1.2]
        · rw [if_neg h1]
          by_cases h2 : x = b.lo
          · subst h2
            rw [if_pos (show a.lo ≤ b.lo ∧ b.lo ≤ b.lo by omega), if_pos (show b.lo ≤ b.lo ∧ b.lo ≤ b.hi by omega), Option.some_or]
            show some (a.pr + w * (b.lo - a.lo)) = _
            rw [on, Q.at_lo]
          · rw [if_neg (by omega)]
            by_cases h3 : b.lo ≤ x ∧ x ≤ b.hi
            · rw [if_pos h3]
              simp only [Option.none_or]
              rw [if_pos (by omega)]
              show some (b.pr + b.st + b.st * (x - (b.lo + 1))) = some (b.pr + b.st * (x - b.lo))
              rw [Int.add_assoc, show x - b.lo = (x - (b.lo + 1)) + 1 by omega, Int.mul_add, Int.mul_one]
              congr 2; omega
            · rw [if_neg h3]
              simp only [Option.none_or]
              rw [if_neg (by omega)]
theorem put_cnt (r : List Q) (a b : Q) : cntQ (putQ r a b) = cntQ (r ++ [a] ++ [b]) := by
  unfold putQ
  cases hj : joinB a b
  · simp only [Bool.false_eq_true, if_false]
    rw [cntQ_app, cntQ_app (r ++ [a])]
    simp only [cntQ, (beg_lo b).1, (beg_lo b).2.1]
  · simp only [if_true]
    obtain ⟨j1, _⟩ := own_on hj
    split
    · simp only [cntQ_app, cntQ]; omega
    · simp only [cntQ_app, cntQ, (beg_lo _).1, (beg_lo _).2.1]; omega
theorem Can.rep {r : List Q} {a a' : Q} (h : Can (r ++ [a])) (h1 : a'.lo = a.lo) (h2 : a'.pr = a.pr) (h3 : a'.lo ≤ a'.hi) (h4 : a'.lo = a'.hi → a'.st = 0) : Can (r ++ [a']) := by
  obtain ⟨k1, k2, k3⟩ := List.pairwise_append.mp h.p
  refine ⟨fun q hq => ?_, fun q hq => ?_, List.pairwise_append.mpr ⟨k1, List.pairwise_singleton _ _, fun x hx y hy => ?_⟩⟩
  · rcases List.mem_append.mp hq with e | e
    · exact h.w q (List.mem_append_left _ e)
    · rw [List.mem_singleton.mp e]; exact h3
  · rcases List.mem_append.mp hq with e | e
    · exact h.z q (List.mem_append_left _ e)
    · rw [List.mem_singleton.mp e]; exact h4
  · rw [List.mem_singleton.mp hy]
    have := k3 x hx a (.head _)
    exact ⟨by rw [h1]; exact this.1, by rw [h1, h2]; exact this.2⟩
theorem le2 {a N : Nat} (h : a ≤ N) : a ≤ 2 * N := by omega
/-- what is put: a form, its last stretch ends where the row ends -/
theorem put_can {r : List Q} {a b : Q} {N : Nat} (h : Can (r ++ [a])) (hlt : a.hi < b.lo) (hb : b.lo ≤ b.hi) (ka : Bd (2 * N) (r ++ [a])) (ka' : a.pr.natAbs ≤ N ∧ (a.at a.hi).natAbs ≤ N ∧ a.lo.natAbs ≤ N ∧ a.hi.natAbs ≤ N) (kb : b.bd N) :
    Can (putQ r a b) ∧ Bd (2 * N) (putQ r a b) ∧ ∃ r' a', putQ r a b = r' ++ [a'] ∧ a'.hi = b.hi ∧ (a'.pr.natAbs ≤ N ∧ (a'.at a'.hi).natAbs ≤ N ∧ a'.lo.natAbs ≤ N ∧ a'.hi.natAbs ≤ N) := by
  have wa := h.w a (by simp)
  obtain ⟨t1, t2, t3, t4⟩ := ka'
  have u1 := kb.lo; have u2 := kb.hi; have u3 := kb.pr; have u4 := kb.st; have u5 := kb.en
  have ba := (bd_app.mp ka).2 a (by simp)
  have br := (bd_app.mp ka).1
  unfold putQ
  cases hj : joinB a b
  · simp only [Bool.false_eq_true, if_false]
    unfold joinB at hj
    simp only [Bool.and_eq_false_iff, Bool.or_eq_false_iff, decide_eq_false_iff_not] at hj
    obtain ⟨b1, b2, b3⟩ := beg_lo b
    have e5 : (b.beg.at b.beg.hi).natAbs ≤ N := by rw [b2, beg_at b hb (Int.le_refl _)]; exact u5
    have e4 : b.beg.st.natAbs ≤ N := by unfold Q.beg; split <;> (try simp only) <;> omega
    refine ⟨h.snoc ⟨by rw [b1]; exact hlt, fun e => ?_⟩ (by rw [b1, b2]; exact hb) (beg_z b), bd_app.mpr ⟨ka, bd_cons.mpr ⟨⟨by rw [b1]; omega, by rw [b2]; omega, by rw [b3]; omega, by omega, by omega⟩, Bd.nil⟩⟩, r ++ [a], b.beg, rfl, b2, by rw [b3]; omega, e5, by rw [b1]; omega, by rw [b2]; omega⟩
    rw [b1] at e ⊢
    rw [b3]
    have := hj.resolve_left (by omega)
    exact ⟨this.1, fun e => this.2 e.symm⟩
  · simp only [if_true]
    obtain ⟨j1, on, ina⟩ := own_on hj
    have ow : (ownQ a b).natAbs ≤ 2 * N := by
      unfold ownQ; split
      · omega
      · exact ba.st
    generalize ownQ a b = w at *
    have onb : ∀ y, b.lo ≤ y → (b.lo = b.hi ∨ b.st = w) → y ≤ b.hi → a.pr + w * (y - a.lo) = b.at y := by
      intro y h1 hs h2
      unfold Q.at
      rcases hs with hs | hs
      · rw [show y = b.lo by omega, on]; simp
      · rw [hs, ← on, Int.add_assoc, ← Int.mul_add]; congr 2; omega
    split
    · rename_i hs
      have e5 : (Q.at ⟨a.lo, b.hi, a.pr, w⟩ b.hi).natAbs ≤ N := by
        show (a.pr + w * (b.hi - a.lo)).natAbs ≤ N
        rw [onb b.hi hb hs (Int.le_refl _)]; exact u5
      refine ⟨h.rep rfl rfl (by simp only; omega) (by simp only; omega), bd_app.mpr ⟨br, bd_cons.mpr ⟨⟨?_, ?_, ?_, ?_, ?_⟩, Bd.nil⟩⟩, r, _, rfl, rfl, t1, e5, t3, u2⟩
      · simp only; omega
      · simp only; omega
      · simp only; omega
      · exact ow
      · simp only; omega
    · rename_i hs
      have hs' : ¬ b.lo = b.hi := fun e => hs (.inl e)
      have e5 : (Q.at ⟨a.lo, b.lo, a.pr, w⟩ b.lo).natAbs ≤ N := by
        show (a.pr + w * (b.lo - a.lo)).natAbs ≤ N
        rw [on]; exact u3
      have gm : Can (r ++ [⟨a.lo, b.lo, a.pr, w⟩]) := h.rep rfl rfl (by simp only; omega) (by simp only; omega)
      obtain ⟨b1, b2, b3⟩ := beg_lo ⟨b.lo + 1, b.hi, b.pr + b.st, b.st⟩
      have eb : Q.at ⟨b.lo + 1, b.hi, b.pr + b.st, b.st⟩ b.hi = b.at b.hi := by
        have := sub_at b (b.lo + 1) b.hi b.hi
        rwa [Q.at_succ, Q.at_lo] at this
      have e6 : ((Q.beg ⟨b.lo + 1, b.hi, b.pr + b.st, b.st⟩).at (Q.beg ⟨b.lo + 1, b.hi, b.pr + b.st, b.st⟩).hi).natAbs ≤ N := by
        rw [b2, beg_at _ (by simp only; omega) (Int.le_refl _)]
        show (Q.at ⟨b.lo + 1, b.hi, b.pr + b.st, b.st⟩ b.hi).natAbs ≤ N
        rw [eb]; exact u5
      have e7 : (b.pr + b.st).natAbs ≤ N := by
        have := kb.at (x := b.lo + 1) (by omega) (by omega)
        rwa [Q.at_succ, Q.at_lo] at this
      have e9 : (b.lo + 1).natAbs ≤ N := by clear ka ba br e5 e6 e7 t1 t2 t3 t4 u3 u4 u5 ow; omega
      have e8 : (Q.beg ⟨b.lo + 1, b.hi, b.pr + b.st, b.st⟩).st.natAbs ≤ N := by unfold Q.beg; split <;> (try simp only) <;> omega
      simp only at b1 b2 b3
      refine ⟨gm.snoc ⟨by rw [b1]; show b.lo < b.lo + 1; omega, fun e => ?_⟩ (by rw [b1, b2]; omega) (beg_z _), bd_app.mpr ⟨bd_app.mpr ⟨br, bd_cons.mpr ⟨⟨?_, ?_, ?_, ow, ?_⟩, Bd.nil⟩⟩, bd_cons.mpr ⟨⟨?_, ?_, ?_, ?_, ?_⟩, Bd.nil⟩⟩, r ++ [⟨a.lo, b.lo, a.pr, w⟩], _, rfl, b2, ?_, e6, ?_, ?_⟩
      · rw [b1, b3]
        refine ⟨by show a.lo ≠ b.lo; omega, fun e2 => ?_⟩
        have : Q.at ⟨a.lo, b.lo, a.pr, w⟩ (b.lo + 1) = b.pr + w := by rw [Q.at_succ, ← on]; rfl
        rw [this] at e2
        exact hs (.inr (by omega))
      · exact ba.lo
      · exact le2 u1
      · exact ba.pr
      · exact le2 e5
      · rw [b1]; exact le2 e9
      · rw [b2]; exact le2 u2
      · rw [b3]; exact le2 e7
      · exact le2 e8
      · exact le2 e6
      · rw [b3]; exact e7
      · rw [b1]; exact e9
      · rw [b2]; exact u2
theorem putQ_len (r : List Q) (a b : Q) : (putQ r a b).length ≤ r.length + 2 := by
  unfold putQ
  split
  · split <;> simp
  · simp
/-- what is laid of ascending rows -/
theorem laid_fold {N : Nat} : ∀ (rows told : List Q), Can told → Asc rows → Bd N rows → Bd (2 * N) told → (∀ r a, told = r ++ [a] → (a.pr.natAbs ≤ N ∧ (a.at a.hi).natAbs ≤ N ∧ a.lo.natAbs ≤ N ∧ a.hi.natAbs ≤ N) ∧ ∀ b ∈ rows, a.hi < b.lo) →
    Can (rows.foldl layQ told) ∧ Bd (2 * N) (rows.foldl layQ told) ∧ (∀ x, costQ (rows.foldl layQ told) x = costQ (told ++ rows) x) ∧ cntQ (rows.foldl layQ told) = cntQ (told ++ rows) ∧ (rows.foldl layQ told).length ≤ told.length + 2 * rows.length
  | [], told, h1, _, _, h4, _ => ⟨h1, h4, fun x => by rw [List.append_nil]; rfl, by rw [List.append_nil]; rfl, by simp⟩
  | b :: rows, told, h1, h2, h3, h4, h5 => by
    obtain ⟨a1, a2, a3⟩ := asc_cons.mp h2
    obtain ⟨c1, c2⟩ := bd_cons.mp h3
    rcases List.eq_nil_or_concat told with e | ⟨r, a, e⟩
    · subst e
      obtain ⟨b1, b2, b3⟩ := beg_lo b
      have e5 : (b.beg.at b.beg.hi).natAbs ≤ N := by rw [b2, beg_at b a1 (Int.le_refl _)]; exact c1.en
      have e4 : b.beg.st.natAbs ≤ N := by have := c1.st; unfold Q.beg; split <;> (try simp only) <;> omega
      have u1 := c1.lo; have u2 := c1.hi; have u3 := c1.pr
      obtain ⟨k1, k2, k3, k4, k5⟩ := laid_fold rows [b.beg] (.one (by rw [b1, b2]; exact a1) (beg_z b)) a3 c2 (bd_cons.mpr ⟨⟨by rw [b1]; omega, by rw [b2]; omega, by rw [b3]; omega, by omega, by omega⟩, Bd.nil⟩) fun r a e => by
        have e2 : b.beg = a := by
          have := List.append_inj' (show [] ++ [b.beg] = r ++ [a] from e) rfl
          exact (List.cons.inj this.2).1
        subst e2
        exact ⟨⟨by rw [b3]; omega, e5, by rw [b1]; omega, by rw [b2]; omega⟩, fun c hc => by rw [b2]; exact a2 c hc⟩
      rw [List.foldl_cons, layQ_nil]
      refine ⟨k1, k2, fun x => ?_, ?_, by simp at k5 ⊢; omega⟩
      · rw [k3 x, costQ_app, beg_cost, ← costQ_app]; rfl
      · rw [k4, cntQ_app]; simp only [cntQ, List.nil_append, b1, b2]; omega
    · rw [List.concat_eq_append] at e
      subst e
      obtain ⟨ka, hlt⟩ := h5 r a rfl
      have wa := h1.w a (by simp)
      obtain ⟨p1, p2, r', a', p3, p4, p5⟩ := put_can h1 (hlt b (.head _)) a1 h4 ka c1
      obtain ⟨k1, k2, k3, k4, k5⟩ := laid_fold rows (putQ r a b) p1 a3 c2 p2 fun r2 a2' e => by
        rw [p3] at e
        obtain ⟨_, e2⟩ := List.append_inj' e rfl
        have e3 : a' = a2' := (List.cons.inj e2).1
        subst e3
        exact ⟨p5, fun c hc => by rw [p4]; exact a2 c hc⟩
      rw [List.foldl_cons, layQ_snoc]
      refine ⟨k1, k2, fun x => ?_, ?_, ?_⟩
      · rw [k3 x, costQ_app, put_cost r a b x wa a1, ← costQ_app, List.append_assoc]; rfl
      · rw [k4, cntQ_app, put_cnt, ← cntQ_app, List.append_assoc]; rfl
      · have := putQ_len r a b
        simp at k5 ⊢; omega
theorem laidQ_ok {N : Nat} {rows : List Q} (h : Asc rows) (b : Bd N rows) : Can (laidQ rows) ∧ Bd (2 * N) (laidQ rows) ∧ (∀ x, costQ (laidQ rows) x = costQ rows x) ∧ cntQ (laidQ rows) = cntQ rows ∧ (laidQ rows).length ≤ 2 * rows.length := by
  obtain ⟨h1, h2, h3, h4, h5⟩ := laid_fold rows [] .nil h b Bd.nil fun r a e => by simp at e
  exact ⟨h1, h2, h3, h4, by simpa [laidQ] using h5⟩
/-- a size for any list -/
theorem bd_any (l : List Q) : ∃ N, Bd N l := by
  induction l with
  | nil => exact ⟨0, Bd.nil⟩
  | cons q r ih =>
    obtain ⟨N, h⟩ := ih
    refine ⟨N + q.lo.natAbs + q.hi.natAbs + q.pr.natAbs + q.st.natAbs + (q.at q.hi).natAbs, bd_cons.mpr ⟨⟨by omega, by omega, by omega, by omega, by omega⟩, h.mono (by omega)⟩⟩
theorem laidQ_can {rows : List Q} (h : Asc rows) : Can (laidQ rows) := (laidQ_ok h (bd_any rows).choose_spec).1
theorem laidQ_cost {rows : List Q} (h : Asc rows) (x : Int) : costQ (laidQ rows) x = costQ rows x := (laidQ_ok h (bd_any rows).choose_spec).2.2.1 x
theorem laidQ_cnt {rows : List Q} (h : Asc rows) : cntQ (laidQ rows) = cntQ rows := (laidQ_ok h (bd_any rows).choose_spec).2.2.2.1
theorem laidQ_bd {N : Nat} {rows : List Q} (h : Asc rows) (b : Bd N rows) : Bd (2 * N) (laidQ rows) := (laidQ_ok h b).2.1
theorem laidQ_len {rows : List Q} (h : Asc rows) : (laidQ rows).length ≤ 2 * rows.length := (laidQ_ok h (bd_any rows).choose_spec).2.2.2.2
/-- what a form is laid to is the form -/
theorem laidQ_id {l : List Q} (h : Can l) : laidQ l = l := can_uniq (laidQ_can h.asc) h (laidQ_cost h.asc)
theorem laidQ_eq {l r : List Q} (hl : Asc l) (hr : Asc r) (h : ∀ x, costQ l x = costQ r x) : laidQ l = laidQ r :=
  can_uniq (laidQ_can hl) (laidQ_can hr) fun x => by rw [laidQ_cost hl, laidQ_cost hr, h]
end Den
namespace Den
open PySem PySem.Spec PyProof.Rows L2
def fuel : Nat := 1000000
/-! ### a bound for all numbers -/
set_option exponentiation.threshold 20000
@[irreducible] def Hg : Nat := 2 ^ 8000
theorem le_Hg {k : Nat} (h : k ≤ 8000) : 2 ^ k ≤ Hg := by unfold Hg; exact Nat.pow_le_pow_right (by decide) h
theorem Hg_pos : 1 ≤ Hg := le_Hg (k := 0) (by decide)
theorem lt_Hg {a : Int} (h : a.natAbs ≤ 64 * Hg) : a.natAbs < 2 ^ 8007 := by
  have e : 2 ^ 8007 = 128 * Hg := by unfold Hg; rw [show 8007 = 7 + 8000 by rfl, Nat.pow_add]
  have p : 0 < Hg := Nat.lt_of_lt_of_le (by decide) (le_Hg (k := 1) (by decide))
  rw [e]; omega
theorem mulH {a b : Int} (ha : a.natAbs ≤ 64 * Hg) (hb : b.natAbs ≤ 64 * Hg) : mulOk a b = true := mulOk_of 8007 8007 (lt_Hg ha) (lt_Hg hb) (by decide)
theorem mulH2 {a b : Int} (ha : a.natAbs ≤ 64 * Hg) (hb : b.natAbs ≤ 64 * Hg * (64 * Hg)) : mulOk a b = true := by
  have e : 64 * Hg * (64 * Hg) < 2 ^ 16013 := by
    unfold Hg
    rw [show 16013 = 13 + (8000 + 8000) by rfl, Nat.pow_add, Nat.pow_add]
    have p : 0 < 2 ^ 8000 * 2 ^ 8000 := Nat.mul_pos (Nat.pow_pos (by decide)) (Nat.pow_pos (by decide))
    have q : 64 * 2 ^ 8000 * (64 * 2 ^ 8000) = 4096 * (2 ^ 8000 * 2 ^ 8000) := by
      rw [Nat.mul_mul_mul_comm]
    rw [q]
    exact Nat.mul_lt_mul_of_pos_right (by decide) p
  exact mulOk_of 8007 16013 (lt_Hg ha) (Nat.lt_of_le_of_lt hb e) (by decide)
theorem divH {b : Int} (h0 : b ≠ 0) (hb : b.natAbs ≤ 64 * Hg) : divOk b = true :=
  divOk_of h0 (Nat.lt_of_lt_of_le (lt_Hg hb) (Nat.pow_le_pow_right (by decide) (by decide)))
/-! ### stretches as data -/
def Q.d (q : Q) : D := .tup [.int q.lo, .int q.hi, .int q.pr, .int q.st]
@[simp] theorem ix_q0 (q : Q) : ixD q.d (.int 0) = .ok (.int q.lo) := ix_tup0 _ _
@[simp] theorem ix_q1 (q : Q) : ixD q.d (.int 1) = .ok (.int q.hi) := ix_tup1 _ _ _
@[simp] theorem ix_q2 (q : Q) : ixD q.d (.int 2) = .ok (.int q.pr) := ix_tup2 _ _ _ _
@[simp] theorem ix_q3 (q : Q) : ixD q.d (.int 3) = .ok (.int q.st) := ix_tup3 _ _ _ _ _
@[simp] theorem q_tuple (q : Q) : isiD .tuple q.d = .ok true := rfl
@[simp] theorem q_len (q : Q) : biD .len [q.d] = .ok (.int 4) := rfl
theorem q_many (ρ : Env) (a b c d : Nat) (q : Q) : bindT ρ (.many [a, b, c, d]) q.d = .ok (setV (setV (setV (setV ρ a (.int q.lo)) b (.int q.hi)) c (.int q.pr)) d (.int q.st)) := by
  rw [Q.d, bind_many _ _ _ rfl]; rfl
theorem tup_q (a b c d : Int) : D.tup [.int a, .int b, .int c, .int d] = Q.d ⟨a, b, c, d⟩ := rfl
abbrev fD (l : List Q) : D := .tup (l.map Q.d)
def costD (o : Option Int) : D := match o with | some z => .int z | none => .non
@[simp] theorem costD_some (z : Int) : costD (some z) = .int z := rfl
@[simp] theorem costD_none : costD none = .non := rfl
@[simp] theorem q_flat (l : List Q) : D.flat (.tup (l.map Q.d)) = true := by
  rw [D.flat]
  induction l with
  | nil => rfl
  | cons q r ih => rw [List.map_cons, D.flatL, ih]; rfl
/-! ### what is equal -/
mutual
/-- no bool, no dict within -/
def D.pl : D → Bool
  | .non => true | .bl _ => false | .int _ => true | .str _ => true
  | .tup xs => D.plL xs | .lst xs => D.plL xs | .dct _ _ _ => false | .dcT _ _ => false
def D.plL : List D → Bool
  | [] => true
  | x :: xs => x.pl && D.plL xs
end
mutual
theorem pl_plain : ∀ {d : D}, d.pl = true → d.py.plain = true
  | .non, _ => rfl
  | .int _, _ => rfl
  | .str _, _ => rfl
  | .tup xs, h => by rw [D.py, PyData.plain]; exact plL_plain (by rw [D.pl] at h; exact h)
  | .lst xs, h => by rw [D.py, PyData.plain]; exact plL_plain (by rw [D.pl] at h; exact h)
  | .bl _, h => by simp [D.pl] at h
  | .dct _ _ _, h => by simp [D.pl] at h
  | .dcT _ _, h => by simp [D.pl] at h
theorem plL_plain : ∀ {d : List D}, D.plL d = true → PyData.plainAll (D.pyL d) = true
  | [], _ => rfl
  | x :: r, h => by
    rw [D.plL, Bool.and_eq_true] at h
    rw [D.pyL, PyData.plainAll, pl_plain h.1, plL_plain h.2]; rfl
end
mutual
theorem eqv_pl : ∀ {d e : D}, d.pl = true → e.pl = true → PyData.eqv d.py e.py = true → d = e
  | .non, e, _, h2, h => by cases e <;> simp_all [D.py, PyData.eqv, D.pl]
  | .int _, e, _, h2, h => by cases e <;> simp_all [D.py, PyData.eqv, D.pl]
  | .str _, e, _, h2, h => by cases e <;> simp_all [D.py, PyData.eqv, D.pl]
  | .tup xs, e, h1, h2, h => by
    cases e with
    | tup ys =>
      rw [D.py, D.py, PyData.eqv] at h
      rw [eqvL_pl (by simpa [D.pl] using h1) (by simpa [D.pl] using h2) h]
    | _ => simp_all [D.py, PyData.eqv, D.pl]
  | .lst xs, e, h1, h2, h => by
    cases e with
    | lst ys =>
      rw [D.py, D.py, PyData.eqv] at h
      rw [eqvL_pl (by simpa [D.pl] using h1) (by simpa [D.pl] using h2) h]
    | _ => simp_all [D.py, PyData.eqv, D.pl]
  | .bl _, _, h, _, _ => by simp [D.pl] at h
  | .dct _ _ _, _, h, _, _ => by simp [D.pl] at h
  | .dcT _ _, _, h, _, _ => by simp [D.pl] at h
theorem eqvL_pl : ∀ {d e : List D}, D.plL d = true → D.plL e = true → PyData.eqvAll (D.pyL d) (D.pyL e) = true → d = e
  | [], e, _, _, h => by cases e <;> simp_all [D.pyL, PyData.eqvAll]
  | x :: r, e, h1, h2, h => by
    cases e with
    | nil => simp_all [D.pyL, PyData.eqvAll]
    | cons y s =>
      rw [D.plL, Bool.and_eq_true] at h1 h2
      rw [D.pyL, D.pyL, PyData.eqvAll, Bool.and_eq_true] at h
      rw [eqv_pl h1.1 h2.1 h.1, eqvL_pl h1.2 h2.2 h.2]
end
theorem eqv_self {d : D} (h : d.py.plain = true) : PyData.eqv d.py d.py = true := PySem.SeqAt.eqv_refl_plain _ h
theorem eqv_is {d e : D} (h1 : d.pl = true) (h2 : e.pl = true) [Decidable (d = e)] : PyData.eqv d.py e.py = decide (d = e) := by
  by_cases h : d = e
  · rw [decide_eq_true h, h]; exact eqv_self (pl_plain h2)
  · rw [decide_eq_false h]
    cases q : PyData.eqv d.py e.py with
    | false => rfl
    | true => exact absurd (eqv_pl h1 h2 q) h
theorem eqD_is {d e : D} (h1 : d.pl = true) (h2 : e.pl = true) (h3 : d.py.depth ≤ 60) [Decidable (d = e)] : eqD d e = .ok (decide (d = e)) := by
  unfold eqD eqOk
  rw [pl_plain h1, pl_plain h2, decide_eq_true (show min d.py.depth e.py.depth ≤ 60 by omega), eqv_is h1 h2]; rfl
theorem plL_map {α : Type} {f : α → D} : ∀ {l : List α}, (∀ x ∈ l, (f x).pl = true) → D.plL (l.map f) = true
  | [], _ => rfl
  | x :: r, h => by rw [List.map_cons, D.plL, h x (.head _), plL_map fun y hy => h y (.tail _ hy)]; rfl
theorem depL_map {α : Type} {f : α → D} {n : Nat} : ∀ {l : List α}, (∀ x ∈ l, (f x).py.depth ≤ n) → PyData.depthAll (D.pyL (l.map f)) ≤ n
  | [], _ => by rw [List.map_nil, D.pyL, PyData.depthAll]; exact Nat.zero_le _
  | x :: r, h => by
    rw [List.map_cons, D.pyL, PyData.depthAll]
    exact Nat.max_le.mpr ⟨h x (.head _), depL_map fun y hy => h y (.tail _ hy)⟩
@[simp] theorem q_pl (q : Q) : q.d.pl = true := rfl
theorem q_dep (q : Q) : q.d.py.depth = 1 := by simp [Q.d, D.py, D.pyL, PyData.depth, PyData.depthAll]
theorem q_inj {a b : Q} (h : a.d = b.d) : a = b := by
  unfold Q.d at h
  cases a; cases b
  simp at h
  simp [h]
theorem qs_inj {a b : List Q} (h : a.map Q.d = b.map Q.d) : a = b := by
  induction a generalizing b with
  | nil => cases b with
    | nil => rfl
    | cons _ _ => cases h
  | cons x r ih => cases b with
    | nil => cases h
    | cons y s =>
      rw [List.map_cons, List.map_cons] at h
      obtain ⟨h1, h2⟩ := List.cons.inj h
      rw [q_inj h1, ih h2]
theorem qs_pl (l : List Q) : (D.tup (l.map Q.d)).pl = true := by rw [D.pl]; exact plL_map fun q _ => q_pl q
theorem qsl_pl (l : List Q) : (D.lst (l.map Q.d)).pl = true := by rw [D.pl]; exact plL_map fun q _ => q_pl q
theorem qs_dep (l : List Q) : (D.tup (l.map Q.d)).py.depth ≤ 2 := by
  rw [D.py, PyData.depth]
  have := depL_map (f := Q.d) (l := l) (n := 1) fun q _ => by rw [q_dep]; exact Nat.le_refl _
  omega
theorem qsl_dep (l : List Q) : (D.lst (l.map Q.d)).py.depth ≤ 2 := by
  rw [D.py, PyData.depth]
  have := depL_map (f := Q.d) (l := l) (n := 1) fun q _ => by rw [q_dep]; exact Nat.le_refl _
  omega
open Classical in
theorem eqD_forms (a b : List Q) : eqD (fD a) (fD b) = .ok (decide (a = b)) := by
  rw [eqD_is (qs_pl a) (qs_pl b) (by have := qs_dep a; omega)]
  congr 1
  exact decide_eq_decide.mpr ⟨fun h => qs_inj (D.tup.inj h), fun h => by rw [h]⟩
open Classical in
theorem eqD_rows (a b : List Q) : eqD (.lst (a.map Q.d)) (.lst (b.map Q.d)) = .ok (decide (a = b)) := by
  rw [eqD_is (qsl_pl a) (qsl_pl b) (by have := qsl_dep a; omega)]
  congr 1
  exact decide_eq_decide.mpr ⟨fun h => qs_inj (D.lst.inj h), fun h => by rw [h]⟩
theorem eqD_q (a b : Q) : eqD a.d b.d = .ok (decide (a = b)) := by
  by_cases h : a = b
  · subst h
    have := @eqD_is a.d a.d (q_pl a) (q_pl a) (by rw [q_dep]; omega) (.isTrue rfl)
    rw [this]; simp
  · have hn : a.d ≠ b.d := fun e => h (q_inj e)
    have := @eqD_is a.d b.d (q_pl a) (q_pl b) (by rw [q_dep]; omega) (.isFalse hn)
    rw [this, decide_eq_false h]; rfl
theorem ints_pl (l : List Int) : (D.lst (l.map .int)).pl = true := by rw [D.pl]; exact plL_map fun q _ => rfl
theorem ints_dep (l : List Int) : (D.lst (l.map .int)).py.depth ≤ 1 := by
  rw [D.py, PyData.depth]
  have := depL_map (f := D.int) (l := l) (n := 0) fun q _ => by rw [D.py, PyData.depth]; exact Nat.le_refl _
  omega
theorem ints_inj {a b : List Int} (h : a.map D.int = b.map D.int) : a = b := by
  induction a generalizing b with
  | nil => cases b with
    | nil => rfl
    | cons _ _ => cases h
  | cons x r ih => cases b with
    | nil => cases h
    | cons y s =>
      rw [List.map_cons, List.map_cons] at h
      obtain ⟨h1, h2⟩ := List.cons.inj h
      rw [D.int.inj h1, ih h2]
theorem eqD_ints (a b : List Int) : eqD (.lst (a.map .int)) (.lst (b.map .int)) = .ok (decide (a = b)) := by
  by_cases h : a = b
  · subst h
    have := @eqD_is (.lst (a.map .int)) (.lst (a.map .int)) (ints_pl a) (ints_pl a) (by have := ints_dep a; omega) (.isTrue rfl)
    rw [this]; simp
  · have hn : D.lst (a.map .int) ≠ .lst (b.map .int) := fun e => h (ints_inj (D.lst.inj e))
    have := @eqD_is (.lst (a.map .int)) (.lst (b.map .int)) (ints_pl a) (ints_pl b) (by have := ints_dep a; omega) (.isFalse hn)
    rw [this, decide_eq_false h]; rfl
theorem costD_pl (o : Option Int) : (costD o).pl = true := by cases o <;> rfl
theorem costD_dep (o : Option Int) : (costD o).py.depth = 0 := by cases o <;> simp [costD, D.py, PyData.depth]
theorem costD_inj {a b : Option Int} (h : costD a = costD b) : a = b := by
  cases a <;> cases b <;> simp [costD] at h ⊢
  exact h
theorem eqD_cost (a b : Option Int) : eqD (costD a) (costD b) = .ok (decide (a = b)) := by
  by_cases h : a = b
  · subst h
    have := @eqD_is (costD a) (costD a) (costD_pl a) (costD_pl a) (by rw [costD_dep]; omega) (.isTrue rfl)
    rw [this]; simp
  · have hn : costD a ≠ costD b := fun e => h (costD_inj e)
    have := @eqD_is (costD a) (costD b) (costD_pl a) (costD_pl b) (by rw [costD_dep]; omega) (.isFalse hn)
    rw [this, decide_eq_false h]; rfl
theorem eqD_refl {d : D} (h : d.pl = true) (h3 : d.py.depth ≤ 60) : eqD d d = .ok true := by
  have := @eqD_is d d h h h3 (.isTrue rfl)
  rw [this]; simp
@[simp] theorem isNon_cost (o : Option Int) : isNon (costD o) = o.isNone := by cases o <;> rfl
/-! ### the script's numbers -/
/-- no number of more than some million bits -/
def Sm (c : Int) : Prop := c.natAbs.log2 ≤ 2000000
theorem Sm.of {c : Int} (h : Builtin.Int.intBits c ≤ 1048576) : Sm c := by
  unfold Sm
  unfold Builtin.Int.intBits at h
  by_cases h0 : c = 0
  · subst h0; decide
  · rw [if_neg (by simpa using h0)] at h; omega
theorem Sm.mul {c j : Int} (h : Sm c) (hj : j.natAbs < 2 ^ 250) : mulOk c j = true := by
  unfold mulOk
  rw [decide_eq_true_eq]
  unfold Sm at h
  have : j.natAbs.log2 < 250 ∨ j.natAbs.log2 = 0 := by
    by_cases h0 : j.natAbs = 0
    · rw [h0]; exact .inr (by decide)
    · exact .inl ((Nat.log2_lt h0).mpr hj)
  omega
theorem Sm.of_lt {c : Int} (h : c.natAbs < 2 ^ 250) : Sm c := by
  unfold Sm
  by_cases h0 : c.natAbs = 0
  · rw [h0]; decide
  · have := (Nat.log2_lt h0).mpr h; omega
theorem fdv_abs {a b : Int} (h : 0 < b) : (a.fdiv b).natAbs ≤ a.natAbs := by
  obtain ⟨h1, h2⟩ := fdv_bounds (a := a) h
  generalize a.fdiv b = q at *
  rcases Int.lt_or_le q 0 with q0 | q0
  · have : (q + 1) * b ≤ q + 1 := by
      have := Int.mul_nonneg (show 0 ≤ -(q + 1) by omega) (show 0 ≤ b - 1 by omega)
      rw [Int.mul_sub, Int.mul_one, Int.neg_mul] at this
      omega
    omega
  · have : q ≤ q * b := by
      have := Int.mul_nonneg q0 (show 0 ≤ b - 1 by omega)
      rw [Int.mul_sub, Int.mul_one] at this
      omega
    omega
theorem log2_mono {a b : Nat} (h : a ≤ b) : a.log2 ≤ b.log2 := by
  by_cases h0 : a = 0
  · subst h0; rw [show Nat.log2 0 = 0 by decide]; exact Nat.zero_le _
  · have := (Nat.log2_lt h0 (k := b.log2 + 1)).mpr (Nat.lt_of_le_of_lt h Nat.lt_log2_self)
    omega
theorem Sm.of_le {a b : Int} (h : Sm b) (k : a.natAbs ≤ b.natAbs) : Sm a := Nat.le_trans (log2_mono k) h
theorem Sm.fdiv {a b : Int} (h : Sm a) (k : 0 < b) : Sm (a.fdiv b) := h.of_le (fdv_abs k)
theorem pick (xs : List Int) {i : Int} (h0 : 0 ≤ i) (h : i < xs.length) : ∃ g, g ∈ xs ∧ ixD (.lst (xs.map .int)) (.int i) = .ok (.int g) := by
  have hn : i.toNat < xs.length := by omega
  exact ⟨xs[i.toNat], List.getElem_mem hn, ix_lst h0 (by simp [hn])⟩
theorem pickQ (qs : List Q) {i : Int} (h0 : 0 ≤ i) (h : i < qs.length) : ∃ q, q ∈ qs ∧ ixD (.tup (qs.map Q.d)) (.int i) = .ok q.d := by
  have hn : i.toNat < qs.length := by omega
  exact ⟨qs[i.toNat], List.getElem_mem hn, ix_tup h0 (by simp [hn])⟩
theorem slice_s {α : Type} (k : α → D) (ns : List α) (a n : Nat) (b : Int) (hb : b = a + n) : slD (.lst (ns.map k)) (some (a : Int)) (some b) = .ok (.lst (((ns.drop a).take n).map k)) := by
  subst hb
  unfold slD cutL
  simp only
  rw [HT.sIx_nat, show (a : Int) + (n : Int) = ((a + n : Nat) : Int) by omega, HT.sIx_nat, List.length_map]
  congr 2
  apply List.ext_getElem?
  intro i
  rw [List.getElem?_take, List.getElem?_drop, List.getElem?_map, List.getElem?_map, List.getElem?_take, List.getElem?_drop]
  by_cases h1 : a ≤ ns.length
  · rw [Nat.min_eq_left h1]
    by_cases h2 : i < n
    · rw [if_pos h2]
      by_cases h3 : a + i < ns.length
      · rw [if_pos (by omega)]
      · rw [List.getElem?_eq_none (by omega)]
        split <;> rfl
    · rw [if_neg h2, if_neg (by omega)]; rfl
  · rw [List.getElem?_eq_none (show ns.length ≤ a + i by omega), List.getElem?_eq_none (show ns.length ≤ min a ns.length + i by omega)]
    split <;> split <;> rfl
theorem slice_from {α : Type} (k : α → D) (ns : List α) (a : Nat) : slD (.lst (ns.map k)) (some (a : Int)) none = .ok (.lst ((ns.drop a).map k)) := by
  unfold slD cutL
  simp only
  rw [HT.sIx_nat, HT.sIx_none, List.length_map]
  congr 2
  apply List.ext_getElem?
  intro i
  rw [List.getElem?_take, List.getElem?_drop, List.getElem?_map, List.getElem?_map, List.getElem?_drop]
  by_cases h1 : a ≤ ns.length
  · rw [Nat.min_eq_left h1]
    by_cases h2 : i < ns.length - a
    · rw [if_pos h2]
    · rw [if_neg h2, List.getElem?_eq_none (by omega)]; rfl
  · rw [List.getElem?_eq_none (show ns.length ≤ a + i by omega), List.getElem?_eq_none (show ns.length ≤ min a ns.length + i by omega)]
    split <;> rfl
theorem slice_to {α : Type} (k : α → D) (ns : List α) (n : Nat) : slD (.lst (ns.map k)) none (some (n : Int)) = .ok (.lst ((ns.take n).map k)) := by
  unfold slD cutL
  simp only
  rw [HT.sIx_nat, HT.sIx_none, List.length_map]
  congr 2
  apply List.ext_getElem?
  intro i
  rw [List.getElem?_take, List.getElem?_drop, List.getElem?_map, List.getElem?_map, List.getElem?_take, Nat.zero_add, Nat.sub_zero]
  by_cases h2 : i < n
  · rw [if_pos h2]
    by_cases h3 : i < ns.length
    · rw [if_pos (by omega)]
    · rw [List.getElem?_eq_none (by omega)]
      split <;> rfl
  · rw [if_neg h2, if_neg (by omega)]; rfl
/-- a law's own promise -/
def S_law (f : List D → R D) : Prop := ∀ ns : List Int, ns.length ≤ 63 → (∀ z ∈ ns, Builtin.Int.intBits z ≤ 1048576) → f [.lst (ns.map .int)] = .ok (.bl true)
theorem sm_all {ns : List Int} (hb : ∀ z ∈ ns, Builtin.Int.intBits z ≤ 1048576) : ∀ c ∈ ns, Sm c := fun c h => Sm.of (hb c h)
/-! ### loops -/
inductive Tn (β : Type) where
  | go (b : β) | stop (b : β) | out (z : D)
def runL {α β : Type} (st : β → α → Tn β) : List α → β → Tn β
  | [], b => .go b
  | x :: r, b => match st b x with
    | .go b' => runL st r b'
    | o => o
def tnO {β : Type} (E : β → Env) : Tn β → O
  | .go b => .nx (E b)
  | .stop b => .nx (E b)
  | .out z => .ret z
theorem forL_run {α β : Type} {f : Env → D → O} (g : α → D) (E : β → Env) (st : β → α → Tn β) (I : β → Prop) : ∀ (xs : List α)
    (h : ∀ b, I b → ∀ x ∈ xs, match st b x with
      | .go b' => (f (E b) (g x) = .nx (E b') ∨ f (E b) (g x) = .cont (E b')) ∧ I b'
      | .stop b' => f (E b) (g x) = .brk (E b')
      | .out z => f (E b) (g x) = .ret z) (b : β), I b → forL f (xs.map g) (E b) = tnO E (runL st xs b)
  | [], _, b, _ => rfl
  | x :: r, h, b, i => by
    have k := h b i x (.head _)
    rw [List.map_cons, runL]
    cases e : st b x with
    | go b' =>
      rw [e] at k
      obtain ⟨k1, k2⟩ := k
      simp only
      rw [← forL_run g E st I r (fun b i y hy => h b i y (.tail _ hy)) b' k2]
      rcases k1 with k1 | k1
      · exact forL_nx k1
      · exact forL_cont k1
    | stop b' => rw [e] at k; exact forL_brk k
    | out z => rw [e] at k; exact forL_ret k
end Den
namespace Den
open PySem PySem.Spec PyProof.Rows L2
variable {fn : Nat → List D → R D}
/-! ### lines -/
def b_down : Cmds := (.cons (.ret (.bin .fdiv (.var 0) (.var 1))) .nil)
abbrev r_down (fn : Nat → List D → R D) : List D → R D := runF fn fuel 2 false b_down
theorem r_down_eq (fn zs) : r_down fn zs = outO false (evCs fn fuel b_down (initE 2 zs)) := runF_eq _ _ _ _ _ _
theorem r_down_at (fn : Nat → List D → R D) (z0 z1 : D) : r_down fn [z0, z1] = outO false (evCs fn fuel b_down [some z0, some z1]) := r_down_eq fn _
def b_up : Cmds := (.cons (.ret (.neg (.bin .fdiv (.neg (.var 0)) (.var 1)))) .nil)
abbrev r_up (fn : Nat → List D → R D) : List D → R D := runF fn fuel 2 false b_up
theorem r_up_eq (fn zs) : r_up fn zs = outO false (evCs fn fuel b_up (initE 2 zs)) := runF_eq _ _ _ _ _ _
theorem r_up_at (fn : Nat → List D → R D) (z0 z1 : D) : r_up fn [z0, z1] = outO false (evCs fn fuel b_up [some z0, some z1]) := r_up_eq fn _
def b_line_at : Cmds := (.cons (.ret (.bin .add (.ix (.var 0) (.cst (.int 0))) (.bin .mul (.ix (.var 0) (.cst (.int 1))) (.bin .sub (.var 2) (.var 1))))) .nil)
abbrev r_line_at (fn : Nat → List D → R D) : List D → R D := runF fn fuel 3 false b_line_at
theorem r_line_at_eq (fn zs) : r_line_at fn zs = outO false (evCs fn fuel b_line_at (initE 3 zs)) := runF_eq _ _ _ _ _ _
theorem r_line_at_at (fn : Nat → List D → R D) (z0 z1 z2 : D) : r_line_at fn [z0, z1, z2] = outO false (evCs fn fuel b_line_at [some z0, some z1, some z2]) := r_line_at_eq fn _
def b_sum_on : Cmds := (.cons (.ret (.bin .add (.bin .mul (.var 1) (.ix (.var 0) (.cst (.int 0)))) (.bin .mul (.ix (.var 0) (.cst (.int 1))) (.bin .fdiv (.bin .mul (.var 1) (.bin .sub (.var 1) (.cst (.int 1)))) (.cst (.int 2)))))) .nil)
abbrev r_sum_on (fn : Nat → List D → R D) : List D → R D := runF fn fuel 2 false b_sum_on
theorem r_sum_on_eq (fn zs) : r_sum_on fn zs = outO false (evCs fn fuel b_sum_on (initE 2 zs)) := runF_eq _ _ _ _ _ _
theorem r_sum_on_at (fn : Nat → List D → R D) (z0 z1 : D) : r_sum_on fn [z0, z1] = outO false (evCs fn fuel b_sum_on [some z0, some z1]) := r_sum_on_eq fn _
def S_down (f : List D → R D) : Prop := ∀ a b : Int, divOk b = true → f [.int a, .int b] = .ok (.int (a.fdiv b))
theorem down_sp : S_down (r_down fn) := fun a b h => by simp [r_down_eq, b_down, initE, h]
def S_up (f : List D → R D) : Prop := ∀ a b : Int, divOk b = true → f [.int a, .int b] = .ok (.int (-((-a).fdiv b)))
theorem up_sp : S_up (r_up fn) := fun a b h => by simp [r_up_eq, b_up, initE, h]
def S_line_at (f : List D → R D) : Prop := ∀ p s low x : Int, mulOk s (x - low) = true → f [.tup [.int p, .int s], .int low, .int x] = .ok (.int (p + s * (x - low)))
theorem line_at_sp : S_line_at (r_line_at fn) := fun p s low x h => by simp [r_line_at_eq, b_line_at, initE, h]
def S_sum_on (f : List D → R D) : Prop := ∀ p s n : Int, mulOk n p = true → mulOk n (n - 1) = true → mulOk s ((n * (n - 1)).fdiv 2) = true → f [.tup [.int p, .int s], .int n] = .ok (.int (n * p + s * (n * (n - 1)).fdiv 2))
theorem sum_on_sp : S_sum_on (r_sum_on fn) := fun p s n h1 h2 h3 => by
  have d2 : divOk 2 = true := by decide +kernel
  simp [r_sum_on_eq, b_sum_on, initE, h1, h2, h3, d2]
/-! ### forms -/
def b_drawn_on : Cmds := (.cons (.ret (.call 7 (.cons (.tup (.cons (.ix (.var 0) (.cst (.int 2))) (.cons (.ix (.var 0) (.cst (.int 3))) .nil))) (.cons (.ix (.var 0) (.cst (.int 0))) (.cons (.var 1) .nil))))) .nil)
abbrev r_drawn_on (fn : Nat → List D → R D) : List D → R D := runF fn fuel 2 false b_drawn_on
theorem r_drawn_on_eq (fn zs) : r_drawn_on fn zs = outO false (evCs fn fuel b_drawn_on (initE 2 zs)) := runF_eq _ _ _ _ _ _
theorem r_drawn_on_at (fn : Nat → List D → R D) (z0 z1 : D) : r_drawn_on fn [z0, z1] = outO false (evCs fn fuel b_drawn_on [some z0, some z1]) := r_drawn_on_eq fn _
def b_joins : Cmds := (.cons (.if_ (.cmp .ne (.ix (.var 0) (.cst (.int 1))) (.bin .sub (.var 1) (.cst (.int 1)))) (.cons (.ret (.cst (.bl false))) .nil) .nil) (.cons (.ret (.or_ (.cmp .eq (.ix (.var 0) (.cst (.int 0))) (.ix (.var 0) (.cst (.int 1)))) (.cmp .eq (.call 31 (.cons (.var 0) (.cons (.var 1) .nil))) (.var 2)))) .nil))
abbrev r_joins (fn : Nat → List D → R D) : List D → R D := runF fn fuel 3 false b_joins
theorem r_joins_eq (fn zs) : r_joins fn zs = outO false (evCs fn fuel b_joins (initE 3 zs)) := runF_eq _ _ _ _ _ _
theorem r_joins_at (fn : Nat → List D → R D) (z0 z1 z2 : D) : r_joins fn [z0, z1, z2] = outO false (evCs fn fuel b_joins [some z0, some z1, some z2]) := r_joins_eq fn _
def b_begun : Cmds := (.cons (.if_ (.cmp .eq (.var 0) (.var 1)) (.cons (.ret (.tup (.cons (.var 0) (.cons (.var 1) (.cons (.var 2) (.cons (.cst (.int 0)) .nil)))))) .nil) .nil) (.cons (.ret (.tup (.cons (.var 0) (.cons (.var 1) (.cons (.var 2) (.cons (.var 3) .nil)))))) .nil))
abbrev r_begun (fn : Nat → List D → R D) : List D → R D := runF fn fuel 4 false b_begun
theorem r_begun_eq (fn zs) : r_begun fn zs = outO false (evCs fn fuel b_begun (initE 4 zs)) := runF_eq _ _ _ _ _ _
theorem r_begun_at (fn : Nat → List D → R D) (z0 z1 z2 z3 : D) : r_begun fn [z0, z1, z2, z3] = outO false (evCs fn fuel b_begun [some z0, some z1, some z2, some z3]) := r_begun_eq fn _
def w_laid_0 : Cmds := (.cons (.if_ (.or_ (.cmp .eq (.bi .len (.cons (.var 1) .nil)) (.cst (.int 0))) (.not_ (.call 32 (.cons (.ix (.var 1) (.neg (.cst (.int 1)))) (.cons (.var 2) (.cons (.var 4) .nil)))))) (.cons (.app 1 (.call 41 (.cons (.var 2) (.cons (.var 3) (.cons (.var 4) (.cons (.var 5) .nil)))))) (.cons (.kill [2, 3, 4, 5, 6, 7]) (.cons .cont .nil))) .nil) (.cons (.pop 6 1) (.cons (.set 7 (.ix (.var 6) (.cst (.int 3)))) (.cons (.if_ (.cmp .eq (.ix (.var 6) (.cst (.int 0))) (.ix (.var 6) (.cst (.int 1)))) (.cons (.set 7 (.bin .sub (.var 4) (.ix (.var 6) (.cst (.int 2))))) .nil) .nil) (.cons (.if_ (.or_ (.cmp .eq (.var 2) (.var 3)) (.cmp .eq (.var 5) (.var 7))) (.cons (.app 1 (.tup (.cons (.ix (.var 6) (.cst (.int 0))) (.cons (.var 3) (.cons (.ix (.var 6) (.cst (.int 2))) (.cons (.var 7) .nil)))))) .nil) (.cons (.app 1 (.tup (.cons (.ix (.var 6) (.cst (.int 0))) (.cons (.var 2) (.cons (.ix (.var 6) (.cst (.int 2))) (.cons (.var 7) .nil)))))) (.cons (.app 1 (.call 41 (.cons (.bin .add (.var 2) (.cst (.int 1))) (.cons (.var 3) (.cons (.bin .add (.var 4) (.var 5)) (.cons (.var 5) .nil)))))) .nil))) (.cons (.kill [2, 3, 4, 5, 6, 7]) .nil))))))
def b_laid : Cmds := (.cons (.own 1 (.lst .nil)) (.cons (.for_ (.seq (.var 0)) (.many [2, 3, 4, 5]) w_laid_0) (.cons (.ret (.bi .tuple (.cons (.var 1) .nil))) .nil)))
abbrev r_laid (fn : Nat → List D → R D) : List D → R D := runF fn fuel 8 false b_laid
theorem r_laid_eq (fn zs) : r_laid fn zs = outO false (evCs fn fuel b_laid (initE 8 zs)) := runF_eq _ _ _ _ _ _
theorem r_laid_at (fn : Nat → List D → R D) (z0 : D) : r_laid fn [z0] = outO false (evCs fn fuel b_laid [some z0, none, none, none, none, none, none, none]) := r_laid_eq fn _
def w_cost_at_0 : Cmds := (.cons (.if_ (.chain .le .le (.ix (.var 2) (.cst (.int 0))) (.var 1) (.ix (.var 2) (.cst (.int 1)))) (.cons (.ret (.call 31 (.cons (.var 2) (.cons (.var 1) .nil)))) .nil) .nil) (.cons (.kill [2]) .nil))
def b_cost_at : Cmds := (.cons (.for_ (.seq (.var 0)) (.one 2) w_cost_at_0) (.cons (.ret (.cst .non)) .nil))
abbrev r_cost_at (fn : Nat → List D → R D) : List D → R D := runF fn fuel 3 false b_cost_at
theorem r_cost_at_eq (fn zs) : r_cost_at fn zs = outO false (evCs fn fuel b_cost_at (initE 3 zs)) := runF_eq _ _ _ _ _ _
theorem r_cost_at_at (fn : Nat → List D → R D) (z0 z1 : D) : r_cost_at fn [z0, z1] = outO false (evCs fn fuel b_cost_at [some z0, some z1, none]) := r_cost_at_eq fn _
def S_drawn_on (f : List D → R D) : Prop := ∀ (q : Q) (x : Int), mulOk q.st (x - q.lo) = true → f [q.d, .int x] = .ok (.int (q.at x))
theorem drawn_on_sp (h_line_at : S_line_at (fn 7)) : S_drawn_on (r_drawn_on fn) := fun q x h => by
  have e := h_line_at q.pr q.st q.lo x h
  simp [r_drawn_on_eq, b_drawn_on, initE, e, Q.at]
def S_joins (f : List D → R D) : Prop := ∀ (a : Q) (lo pr : Int), mulOk a.st (lo - a.lo) = true → f [a.d, .int lo, .int pr] = .ok (.bl (decide (a.hi = lo - 1) && (decide (a.lo = a.hi) || decide (a.at lo = pr))))
theorem joins_sp (h_drawn_on : S_drawn_on (fn 31)) : S_joins (r_joins fn) := fun a lo pr h => by
  have e := h_drawn_on a lo h
  by_cases h1 : a.hi = lo - 1
  · by_cases h2 : a.lo = a.hi
    · simp [r_joins_eq, b_joins, initE, e, h1, h2]
    · have h2' : ¬ a.lo = lo - 1 := by omega
      simp [r_joins_eq, b_joins, initE, e, h1, h2']
  · simp [r_joins_eq, b_joins, initE, h1]
def S_begun (f : List D → R D) : Prop := ∀ q : Q, f [.int q.lo, .int q.hi, .int q.pr, .int q.st] = .ok q.beg.d
theorem begun_sp : S_begun (r_begun fn) := fun q => by
  by_cases h : q.lo = q.hi <;> simp [r_begun_eq, b_begun, initE, h, Q.beg, Q.d]
def laidE (R : D) (told : List Q) : Env := [some R, some (.lst (told.map Q.d)), none, none, none, none, none, none]
theorem laid_turn (h_joins : S_joins (fn 32)) (h_begun : S_begun (fn 41)) (R : D) (told : List Q) (b : Q) (hl : told.length < 1000000) (m : ∀ a ∈ told, mulOk a.st (b.lo - a.lo) = true) :
    evCs fn fuel w_laid_0 [some R, some (.lst (told.map Q.d)), some (.int b.lo), some (.int b.hi), some (.int b.pr), some (.int b.st), none, none] = .nx (laidE R (layQ told b)) ∨
    evCs fn fuel w_laid_0 [some R, some (.lst (told.map Q.d)), some (.int b.lo), some (.int b.hi), some (.int b.pr), some (.int b.st), none, none] = .cont (laidE R (layQ told b)) := by
  have bg := h_begun b
  rcases List.eq_nil_or_concat told with e | ⟨r, a, e⟩
  · subst e
    exact .inr (by simp [w_laid_0, bg, laidE, layQ_nil])
  · rw [List.concat_eq_append] at e
    subst e
    have j := h_joins a b.lo b.pr (m a (by simp))
    rw [layQ_snoc]
    have hix : ixD (.lst ((r ++ [a]).map Q.d)) (.int (-1)) = .ok a.d := ix_last (by simp)
    have l0 : (r ++ [a]).length < 16777216 := by omega
    simp at l0
    rw [show (decide (a.hi = b.lo - 1) && (decide (a.lo = a.hi) || decide (a.at b.lo = b.pr))) = joinB a b from rfl] at j
    generalize hT : (r ++ [a]).map Q.d = T at hix
    have hne : T ≠ [] := fun e => by rw [← hT] at e; simp at e
    have hlen : T.length = r.length + 1 := by rw [← hT]; simp
    have hp : T[T.length - 1]? = some a.d := by rw [← hT]; simp
    have hd : T.dropLast = r.map Q.d := by rw [← hT]; simp
    unfold putQ
    cases hj : joinB a b
    · rw [hj] at j
      have l1 : T.length < 16777216 := by omega
      refine .inr ?_
      simp [w_laid_0, hne, hix, j, bg, l1, laidE]
      rw [← hT]; simp
    · rw [hj] at j
      have b2 := h_begun ⟨b.lo + 1, b.hi, b.pr + b.st, b.st⟩
      simp only at b2
      have l1 : r.length < 16777216 := by omega
      have l2 : r.length + 1 < 16777216 := by omega
      refine .inl ?_
      rw [if_pos rfl]
      have fin : ∀ (w : Int) (d0 : Bool), decide (a.lo = a.hi) = d0 → w = (if d0 = true then b.pr - a.pr else a.st) → evCs fn fuel w_laid_0 [some R, some (.lst T), some (.int b.lo), some (.int b.hi), some (.int b.pr), some (.int b.st), none, none] = .nx (laidE R (if b.lo = b.hi ∨ b.st = w then r ++ [⟨a.lo, b.hi, a.pr, w⟩] else r ++ [⟨a.lo, b.lo, a.pr, w⟩] ++ [Q.beg ⟨b.lo + 1, b.hi, b.pr + b.st, b.st⟩])) := by
        intro w d0 e0 ew
        by_cases h1 : b.lo = b.hi
        · have d1 := decide_eq_true h1
          rw [if_pos (.inl h1)]
          cases d0 <;> simp at ew <;> subst ew <;> simp [w_laid_0, hne, hix, j, hp, hd, e0, d1, l1, laidE, tup_q]
        · have d1 := decide_eq_false h1
          by_cases h2 : b.st = w
          · have d2 := decide_eq_true h2
            rw [if_pos (.inr h2)]
            cases d0 <;> simp at ew <;> subst ew <;> simp [w_laid_0, hne, hix, j, hp, hd, e0, d1, d2, l1, laidE, tup_q]
          · have d2 := decide_eq_false h2
            rw [if_neg (fun h => h.elim h1 h2)]
            cases d0 <;> simp at ew <;> subst ew <;> simp [w_laid_0, hne, hix, j, hp, hd, e0, d1, d2, l1, l2, b2, laidE, tup_q]
      refine fin (ownQ a b) _ rfl ?_
      unfold ownQ
      by_cases h0 : a.lo = a.hi
      · rw [if_pos h0, decide_eq_true h0]; rfl
      · rw [if_neg h0, decide_eq_false h0]; rfl
def S_laid (f : List D → R D) : Prop := ∀ (R : D) (rows : List Q) (N : Nat), items R = .ok (rows.map Q.d) → Asc rows → Bd N rows → N ≤ Hg → rows.length ≤ 100000 → f [R] = .ok (fD (laidQ rows))
theorem laid_sp (h_joins : S_joins (fn 32)) (h_begun : S_begun (fn 41)) : S_laid (r_laid fn) := fun R rows N hR ha hb hN hl => by
  rw [r_laid_eq]
  have loop : ∀ (todo done : List Q), rows = done ++ todo → forL (fun ρ x => thenO (bindT ρ (.many [2, 3, 4, 5]) x) ρ fun ρ' => evCs fn fuel w_laid_0 ρ') (todo.map Q.d) (laidE R (laidQ done)) = .nx (laidE R (laidQ rows)) := by
    intro todo
    induction todo with
    | nil => intro done e; rw [List.append_nil] at e; rw [e]; rfl
    | cons b todo ih =>
      intro done e
      have e2 : rows = (done ++ [b]) ++ todo := by rw [e, List.append_assoc]; rfl
      have had : Asc done := (asc_app.mp (e ▸ ha)).1
      obtain ⟨hbd, hbt⟩ := bd_app.mp (e ▸ hb)
      have b2 := laidQ_bd had hbd
      have bb := (bd_cons.mp hbt).1
      have k := ih (done ++ [b]) e2
      have el : laidQ (done ++ [b]) = layQ (laidQ done) b := by unfold laidQ; rw [List.foldl_append]; rfl
      rw [el] at k
      have len := laidQ_len had
      have hlen : rows.length = done.length + (todo.length + 1) := by rw [e]; simp
      have t := laid_turn h_joins h_begun R (laidQ done) b (by omega) fun a hm => by
        have := b2 a hm
        have z1 := this.st; have z2 := this.lo; have z3 := bb.lo
        exact mulH (by omega) (by omega)
      rw [List.map_cons]
      have bt : thenO (bindT (laidE R (laidQ done)) (.many [2, 3, 4, 5]) b.d) (laidE R (laidQ done)) (fun ρ' => evCs fn fuel w_laid_0 ρ') = evCs fn fuel w_laid_0 [some R, some (.lst ((laidQ done).map Q.d)), some (.int b.lo), some (.int b.hi), some (.int b.pr), some (.int b.st), none, none] := by
        rw [q_many]; rfl
      rcases t with t | t
      · rw [forL_nx (ρ' := laidE R (layQ (laidQ done) b)) (by rw [bt]; exact t)]; exact k
      · rw [forL_cont (ρ' := laidE R (layQ (laidQ done) b)) (by rw [bt]; exact t)]; exact k
  refine out_of (go_own (z := .lst []) rfl (go_for (xs := rows.map Q.d) ?_ (loop rows [] rfl) (go_ret ?_)))
  · rw [evi_seq, ev_var]; exact hR
  · simp [laidE]
def S_cost_at (f : List D → R D) : Prop := ∀ (qs : List Q) (x : Int) (N : Nat), Bd N qs → N ≤ Hg → f [fD qs, .int x] = .ok (costD (costQ qs x))
theorem cost_at_sp (h_drawn_on : S_drawn_on (fn 31)) : S_cost_at (r_cost_at fn) := fun qs x N hb hN => by
  rw [r_cost_at_eq]
  have loop : ∀ rs : List Q, Bd N rs → forL (fun ρ x => thenO (bindT ρ (.one 2) x) ρ fun ρ' => evCs fn fuel w_cost_at_0 ρ') (rs.map Q.d) [some (fD qs), some (.int x), none] = (match costQ rs x with | some z => .ret (.int z) | none => .nx [some (fD qs), some (.int x), none]) := by
    intro rs
    induction rs with
    | nil => intro _; rfl
    | cons q r ih =>
      intro hr
      obtain ⟨hq, hr⟩ := bd_cons.mp hr
      rw [costQ, List.map_cons]
      by_cases h : q.lo ≤ x ∧ x ≤ q.hi
      · have z1 := hq.st; have z2 := hq.lo; have z3 := hq.hi
        have e := h_drawn_on q x (mulH (by omega) (by omega))
        rw [if_pos h, forL_ret (z := .int (q.at x))]
        simp [w_cost_at_0, e, h]
      · rw [if_neg h, forL_nx (ρ' := [some (fD qs), some (.int x), none])]
        · exact ih hr
        · by_cases h1 : q.lo ≤ x
          · have h2 : ¬ x ≤ q.hi := fun h2 => h ⟨h1, h2⟩
            simp [w_cost_at_0, h1, h2]
          · simp [w_cost_at_0, h1]
  have k := loop qs hb
  cases hc : costQ qs x with
  | none =>
    rw [hc] at k
    exact out_of (go_for (xs := qs.map Q.d) rfl k (go_ret rfl))
  | some z =>
    rw [hc] at k
    refine out_of ?_
    rw [b_cost_at, evCs_cons, evC_for]
    show seqO (thenO (.ok (qs.map Q.d)) _ _) _ = _
    rw [thenO_ok]
    show seqO (forL _ _ [some (fD qs), some (.int x), none]) _ = _
    rw [k]; rfl
end Den
namespace Den
open PySem PySem.Spec PyProof.Rows L2
variable {fn : Nat → List D → R D}
/-! ### what the laws' own defs compute -/
def b_law_cell : Cmds := (.cons (.if_ (.cmp .lt (.var 1) (.bi .len (.cons (.var 0) .nil))) (.cons (.ret (.ix (.var 0) (.var 1))) .nil) .nil) (.cons (.ret (.cst (.int 0))) .nil))
abbrev r_law_cell (fn : Nat → List D → R D) : List D → R D := runF fn fuel 2 false b_law_cell
theorem r_law_cell_eq (fn zs) : r_law_cell fn zs = outO false (evCs fn fuel b_law_cell (initE 2 zs)) := runF_eq _ _ _ _ _ _
theorem r_law_cell_at (fn : Nat → List D → R D) (z0 z1 : D) : r_law_cell fn [z0, z1] = outO false (evCs fn fuel b_law_cell [some z0, some z1]) := r_law_cell_eq fn _
def b_law_start : Cmds := (.cons (.if_ (.cmp .eq (.bin .mod (.var 0) (.cst (.int 3))) (.cst (.int 0))) (.cons (.ret (.bin .sub (.bin .mod (.bin .fdiv (.var 0) (.cst (.int 3))) (.cst (.int 41))) (.cst (.int 20)))) .nil) .nil) (.cons (.ret (.bin .sub (.bin .mod (.bin .fdiv (.var 0) (.cst (.int 3))) (.bin .mul (.cst (.int 2)) (.bin .pow (.cst (.int 10)) (.cst (.int 50))))) (.bin .pow (.cst (.int 10)) (.cst (.int 50))))) .nil))
abbrev r_law_start (fn : Nat → List D → R D) : List D → R D := runF fn fuel 1 false b_law_start
theorem r_law_start_eq (fn zs) : r_law_start fn zs = outO false (evCs fn fuel b_law_start (initE 1 zs)) := runF_eq _ _ _ _ _ _
theorem r_law_start_at (fn : Nat → List D → R D) (z0 : D) : r_law_start fn [z0] = outO false (evCs fn fuel b_law_start [some z0]) := r_law_start_eq fn _
def b_law_whole : Cmds := (.cons (.ret (.and_ (.isi (.var 0) .int) (.not_ (.isi (.var 0) .bool)))) .nil)
abbrev r_law_whole (fn : Nat → List D → R D) : List D → R D := runF fn fuel 1 false b_law_whole
theorem r_law_whole_eq (fn zs) : r_law_whole fn zs = outO false (evCs fn fuel b_law_whole (initE 1 zs)) := runF_eq _ _ _ _ _ _
theorem r_law_whole_at (fn : Nat → List D → R D) (z0 : D) : r_law_whole fn [z0] = outO false (evCs fn fuel b_law_whole [some z0]) := r_law_whole_eq fn _
def w_law_stretch_0 : Cmds := (.cons (.if_ (.not_ (.call 4 (.cons (.var 1) .nil))) (.cons (.ret (.cst (.bl false))) .nil) .nil) (.cons (.kill [1]) .nil))
def b_law_stretch : Cmds := (.cons (.if_ (.or_ (.not_ (.isi (.var 0) .tuple)) (.cmp .ne (.bi .len (.cons (.var 0) .nil)) (.cst (.int 4)))) (.cons (.ret (.cst (.bl false))) .nil) .nil) (.cons (.for_ (.seq (.var 0)) (.one 1) w_law_stretch_0) (.cons (.ret (.or_ (.cmp .lt (.ix (.var 0) (.cst (.int 0))) (.ix (.var 0) (.cst (.int 1)))) (.and_ (.cmp .eq (.ix (.var 0) (.cst (.int 0))) (.ix (.var 0) (.cst (.int 1)))) (.cmp .eq (.ix (.var 0) (.cst (.int 3))) (.cst (.int 0)))))) .nil)))
abbrev r_law_stretch (fn : Nat → List D → R D) : List D → R D := runF fn fuel 2 false b_law_stretch
theorem r_law_stretch_eq (fn zs) : r_law_stretch fn zs = outO false (evCs fn fuel b_law_stretch (initE 2 zs)) := runF_eq _ _ _ _ _ _
theorem r_law_stretch_at (fn : Nat → List D → R D) (z0 : D) : r_law_stretch fn [z0] = outO false (evCs fn fuel b_law_stretch [some z0, none]) := r_law_stretch_eq fn _
def w_law_canon_0 : Cmds := (.cons (.if_ (.not_ (.call 36 (.cons (.ix (.var 0) (.var 1)) .nil))) (.cons (.ret (.cst (.bl false))) .nil) .nil) (.cons (.if_ (.cmp .gt (.var 1) (.cst (.int 0))) (.cons (.set 2 (.ix (.var 0) (.bin .sub (.var 1) (.cst (.int 1))))) (.cons (.if_ (.cmp .le (.ix (.ix (.var 0) (.var 1)) (.cst (.int 0))) (.ix (.var 2) (.cst (.int 1)))) (.cons (.ret (.cst (.bl false))) .nil) .nil) (.cons (.set 3 (.bin .add (.ix (.var 2) (.cst (.int 2))) (.bin .mul (.ix (.var 2) (.cst (.int 3))) (.bin .sub (.ix (.ix (.var 0) (.var 1)) (.cst (.int 0))) (.ix (.var 2) (.cst (.int 0))))))) (.cons (.if_ (.and_ (.cmp .eq (.ix (.ix (.var 0) (.var 1)) (.cst (.int 0))) (.bin .add (.ix (.var 2) (.cst (.int 1))) (.cst (.int 1)))) (.or_ (.cmp .eq (.ix (.var 2) (.cst (.int 0))) (.ix (.var 2) (.cst (.int 1)))) (.cmp .eq (.ix (.ix (.var 0) (.var 1)) (.cst (.int 2))) (.var 3)))) (.cons (.ret (.cst (.bl false))) .nil) .nil) .nil)))) .nil) (.cons (.kill [1, 2, 3]) .nil)))
def b_law_canon : Cmds := (.cons (.if_ (.not_ (.isi (.var 0) .tuple)) (.cons (.ret (.cst (.bl false))) .nil) .nil) (.cons (.for_ (.rng1 (.bi .len (.cons (.var 0) .nil))) (.one 1) w_law_canon_0) (.cons (.ret (.cst (.bl true))) .nil)))
abbrev r_law_canon (fn : Nat → List D → R D) : List D → R D := runF fn fuel 4 false b_law_canon
theorem r_law_canon_eq (fn zs) : r_law_canon fn zs = outO false (evCs fn fuel b_law_canon (initE 4 zs)) := runF_eq _ _ _ _ _ _
theorem r_law_canon_at (fn : Nat → List D → R D) (z0 : D) : r_law_canon fn [z0] = outO false (evCs fn fuel b_law_canon [some z0, none, none, none]) := r_law_canon_eq fn _
def w_law_cost_2_0 : Cmds := (.cons (.if_ (.and_ (.cmp .le (.ix (.var 2) (.cst (.int 0))) (.var 1)) (.cmp .le (.var 1) (.ix (.var 2) (.cst (.int 1))))) (.cons (.ret (.bin .add (.ix (.var 2) (.cst (.int 2))) (.bin .mul (.ix (.var 2) (.cst (.int 3))) (.bin .sub (.var 1) (.ix (.var 2) (.cst (.int 0))))))) .nil) .nil) (.cons (.kill [2]) .nil))
def b_law_cost_2 : Cmds := (.cons (.for_ (.seq (.var 0)) (.one 2) w_law_cost_2_0) (.cons (.ret (.cst .non)) .nil))
abbrev r_law_cost_2 (fn : Nat → List D → R D) : List D → R D := runF fn fuel 3 false b_law_cost_2
theorem r_law_cost_2_eq (fn zs) : r_law_cost_2 fn zs = outO false (evCs fn fuel b_law_cost_2 (initE 3 zs)) := runF_eq _ _ _ _ _ _
theorem r_law_cost_2_at (fn : Nat → List D → R D) (z0 z1 : D) : r_law_cost_2 fn [z0, z1] = outO false (evCs fn fuel b_law_cost_2 [some z0, some z1, none]) := r_law_cost_2_eq fn _
def w_law_numbers_3_0 : Cmds := (.cons (.if_ (.cmp .lt (.bi .len (.cons (.var 3) .nil)) (.var 2)) (.cons (.app 3 (.bin .mod (.ix (.var 0) (.var 4)) (.bin .pow (.cst (.int 10)) (.cst (.int 45))))) .nil) (.cons (.setIx 3 (.bin .mod (.var 4) (.var 2)) (.bin .mod (.bin .add (.bin .mul (.ix (.var 3) (.bin .mod (.var 4) (.var 2))) (.cst (.int 10007))) (.ix (.var 0) (.var 4))) (.bin .pow (.cst (.int 10)) (.cst (.int 45))))) .nil)) (.cons (.kill [4]) .nil))
def b_law_numbers_3 : Cmds := (.cons (.own 3 (.lst .nil)) (.cons (.for_ (.rng2 (.var 1) (.bi .len (.cons (.var 0) .nil))) (.one 4) w_law_numbers_3_0) (.cons (.retM 3) .nil)))
abbrev r_law_numbers_3 (fn : Nat → List D → R D) : List D → R D := runF fn fuel 5 true b_law_numbers_3
theorem r_law_numbers_3_eq (fn zs) : r_law_numbers_3 fn zs = outO true (evCs fn fuel b_law_numbers_3 (initE 5 zs)) := runF_eq _ _ _ _ _ _
theorem r_law_numbers_3_at (fn : Nat → List D → R D) (z0 z1 z2 : D) : r_law_numbers_3 fn [z0, z1, z2] = outO true (evCs fn fuel b_law_numbers_3 [some z0, some z1, some z2, none, none]) := r_law_numbers_3_eq fn _
def w_law_near_0 : Cmds := (.cons (.ext 2 (.lst (.cons (.bin .sub (.ix (.var 3) (.cst (.int 0))) (.cst (.int 1))) (.cons (.ix (.var 3) (.cst (.int 0))) (.cons (.bin .add (.ix (.var 3) (.cst (.int 0))) (.cst (.int 1))) (.cons (.ix (.var 3) (.cst (.int 1))) (.cons (.bin .add (.ix (.var 3) (.cst (.int 1))) (.cst (.int 1))) .nil))))))) (.cons (.kill [3]) .nil))
def b_law_near : Cmds := (.cons (.own 2 (.lst .nil)) (.cons (.for_ (.seq (.bin .add (.bi .list (.cons (.var 0) .nil)) (.bi .list (.cons (.var 1) .nil)))) (.one 3) w_law_near_0) (.cons (.retM 2) .nil)))
abbrev r_law_near (fn : Nat → List D → R D) : List D → R D := runF fn fuel 4 true b_law_near
theorem r_law_near_eq (fn zs) : r_law_near fn zs = outO true (evCs fn fuel b_law_near (initE 4 zs)) := runF_eq _ _ _ _ _ _
theorem r_law_near_at (fn : Nat → List D → R D) (z0 z1 : D) : r_law_near fn [z0, z1] = outO true (evCs fn fuel b_law_near [some z0, some z1, none, none]) := r_law_near_eq fn _
def cellAt (ns : List Int) (k : Nat) : Int := ns.getD k 0
def S_law_cell (f : List D → R D) : Prop := ∀ (ns : List Int) (k : Nat), f [.lst (ns.map .int), .int k] = .ok (.int (cellAt ns k))
theorem law_cell_sp : S_law_cell (r_law_cell fn) := fun ns k => by
  by_cases h : k < ns.length
  · have i := ix_ints (xs := ns) (i := k) (by omega) (by omega)
    have h' : (k : Int) < ns.length := by omega
    simp only [Int.toNat_natCast] at i
    simp [r_law_cell_eq, b_law_cell, initE, h, i, cellAt]
  · have h' : ¬ (k : Int) < ns.length := by omega
    simp [r_law_cell_eq, b_law_cell, initE, h, cellAt]
theorem cell_0 {f : List D → R D} (h : S_law_cell f) (ns : List Int) : f [.lst (ns.map .int), .int 0] = .ok (.int (cellAt ns 0)) := h ns 0
theorem cell_1 {f : List D → R D} (h : S_law_cell f) (ns : List Int) : f [.lst (ns.map .int), .int 1] = .ok (.int (cellAt ns 1)) := h ns 1
theorem cell_2 {f : List D → R D} (h : S_law_cell f) (ns : List Int) : f [.lst (ns.map .int), .int 2] = .ok (.int (cellAt ns 2)) := h ns 2
theorem cell_3 {f : List D → R D} (h : S_law_cell f) (ns : List Int) : f [.lst (ns.map .int), .int 3] = .ok (.int (cellAt ns 3)) := h ns 3
theorem cell_4 {f : List D → R D} (h : S_law_cell f) (ns : List Int) : f [.lst (ns.map .int), .int 4] = .ok (.int (cellAt ns 4)) := h ns 4
theorem cell_sm {ns : List Int} (h : ∀ c ∈ ns, Sm c) (k : Nat) : Sm (cellAt ns k) := by
  unfold cellAt
  rw [List.getD_eq_getElem?_getD]
  cases e : ns[k]? with
  | none => exact Sm.of_lt (by decide)
  | some c => exact h c (List.mem_of_getElem? e)
def S_law_start (f : List D → R D) : Prop := ∀ c : Int, ∃ s : Int, f [.int c] = .ok (.int s) ∧ s.natAbs ≤ 2 ^ 200
theorem law_start_sp : S_law_start (r_law_start fn) := fun c => by
  have h3 : divOk 3 = true := by decide +kernel
  have m1 : mulOk 2 100000000000000000000000000000000000000000000000000 = true := by decide +kernel
  have p1 : powOk 10 50 = true := by decide +kernel
  have a := fmod_bounds (a := c.fdiv 3) (b := 41) (by decide)
  have d := fmod_bounds (a := c.fdiv 3) (b := 200000000000000000000000000000000000000000000000000) (by decide)
  by_cases h : c.fmod 3 = 0
  · exact ⟨(c.fdiv 3).fmod 41 - 20, by simp [r_law_start_eq, b_law_start, initE, h3, h], by omega⟩
  · exact ⟨(c.fdiv 3).fmod 200000000000000000000000000000000000000000000000000 - 100000000000000000000000000000000000000000000000000, by simp [r_law_start_eq, b_law_start, initE, h3, m1, p1, h], by omega⟩
def S_law_whole (f : List D → R D) : Prop := ∀ c : Int, f [.int c] = .ok (.bl true)
theorem law_whole_sp : S_law_whole (r_law_whole fn) := fun c => by simp [r_law_whole_eq, b_law_whole, initE]
def S_law_stretch (f : List D → R D) : Prop := ∀ q : Q, q.lo ≤ q.hi → (q.lo = q.hi → q.st = 0) → f [q.d] = .ok (.bl true)
theorem law_stretch_sp (h_law_whole : S_law_whole (fn 4)) : S_law_stretch (r_law_stretch fn) := fun q h1 h2 => by
  have s : items q.d = .ok [.int q.lo, .int q.hi, .int q.pr, .int q.st] := rfl
  have w := h_law_whole
  unfold S_law_whole at w
  by_cases h3 : q.lo < q.hi
  · simp [r_law_stretch_eq, b_law_stretch, initE, evC_for, w_law_stretch_0, w, forL_cons, s, h3]
  · have h4 : q.lo = q.hi := by omega
    have h5 := h2 h4
    simp [r_law_stretch_eq, b_law_stretch, initE, evC_for, w_law_stretch_0, w, forL_cons, s, h4, h5]
theorem Can.adj {l : List Q} (h : Can l) (k : Nat) (a b : Q) (e1 : l[k]? = some a) (e2 : l[k + 1]? = some b) : a.nxt b := by
  obtain ⟨k1, rfl⟩ := List.getElem?_eq_some_iff.mp e1
  obtain ⟨k2, rfl⟩ := List.getElem?_eq_some_iff.mp e2
  exact List.pairwise_iff_getElem.mp h.p k (k + 1) k1 k2 (by omega)
def S_law_canon (f : List D → R D) : Prop := ∀ (l : List Q) (N : Nat), Can l → Bd N l → N ≤ Hg → l.length ≤ 10000000 → f [fD l] = .ok (.bl true)
theorem law_canon_sp (h_law_stretch : S_law_stretch (fn 36)) : S_law_canon (r_law_canon fn) := fun l N h hb hN hl => by
  rw [r_law_canon_eq]
  obtain ⟨V, hV⟩ : ∃ V, V = fD l := ⟨_, rfl⟩
  rw [← hV]
  have loop := forL_inv (f := fun ρ x => thenO (bindT ρ (.one 1) x) ρ fun ρ' => evCs fn fuel w_law_canon_0 ρ')
    (fun ρ => ρ = [some V, none, none, none]) (xs := upto 0 (l.length : Int).toNat) (ρ := [some V, none, none, none])
    (fun ρ x hP hx => by
      subst hP
      obtain ⟨k, hk, rfl⟩ := mem_upto0 hx
      have hk : k < l.length := by omega
      obtain ⟨b, hb'⟩ : ∃ b, l[k]? = some b := ⟨_, List.getElem?_eq_getElem hk⟩
      have bm := List.mem_of_getElem? hb'
      have ib : ixD V (.int k) = .ok b.d := by rw [hV]; exact ix_tup (by omega) (by simp [hb'])
      have st := h_law_stretch b (h.w b bm) (h.z b bm)
      refine ⟨_, .inl ?_, rfl⟩
      rw [bind_one, thenO_ok]
      cases k with
      | zero =>
        have ib : ixD V (.int 0) = .ok b.d := ib
        simp [w_law_canon_0, ib, st]
      | succ k =>
        obtain ⟨a, ha⟩ : ∃ a, l[k]? = some a := ⟨_, List.getElem?_eq_getElem (show k < l.length by omega)⟩
        have am := List.mem_of_getElem? ha
        generalize hK : ((k + 1 : Nat) : Int) = K at *
        have ia : ixD V (.int (K - 1)) = .ok a.d := by
          rw [hV, show K - 1 = ((k : Nat) : Int) by omega]; exact ix_tup (by omega) (by simp [ha])
        have kp : 0 < K := by omega
        obtain ⟨n1, n2⟩ := h.adj k a b ha hb'
        have ba := hb a am; have bb := hb b bm
        have z1 := ba.st; have z2 := ba.lo; have z3 := bb.lo
        have mo : mulOk a.st (b.lo - a.lo) = true := mulH (by omega) (by omega)
        have n1' : ¬ b.lo ≤ a.hi := by omega
        by_cases h3 : b.lo = a.hi + 1
        · obtain ⟨n3, n4⟩ := n2 h3
          have kk := decide_eq_true h3
          have n4' : ¬ b.pr = a.pr + a.st * (b.lo - a.lo) := n4
          have d3 := decide_eq_false n3
          have d4 := decide_eq_false n4'
          simp [w_law_canon_0, ib, ia, st, kp, mo, n1', kk, d3, d4]
        · have kk := decide_eq_false h3
          simp [w_law_canon_0, ib, ia, st, kp, mo, n1', kk]) rfl
  obtain ⟨ρ', l1, rfl⟩ := loop
  have hv : isiD .tuple V = .ok true := by rw [hV]; rfl
  have hn : biD .len [V] = .ok (.int l.length) := by rw [hV, bi_len_tup, List.length_map]
  refine out_of (go_f0 ?_ (go_for (xs := upto 0 (l.length : Int).toNat) ?_ l1 (go_ret (ev_cst _ _ _))))
  · simp [initE, hv]
  · simp [initE, hn]
def S_law_cost_2 (f : List D → R D) : Prop := ∀ (R : D) (l : List Q) (x : Int) (N : Nat), items R = .ok (l.map Q.d) → Bd N l → N ≤ Hg → f [R, .int x] = .ok (costD (costQ l x))
theorem law_cost_2_sp : S_law_cost_2 (r_law_cost_2 fn) := fun R qs x N hR hb hN => by
  rw [r_law_cost_2_eq]
  have loop : ∀ rs : List Q, Bd N rs → forL (fun ρ x => thenO (bindT ρ (.one 2) x) ρ fun ρ' => evCs fn fuel w_law_cost_2_0 ρ') (rs.map Q.d) [some R, some (.int x), none] = (match costQ rs x with | some z => .ret (.int z) | none => .nx [some R, some (.int x), none]) := by
    intro rs
    induction rs with
    | nil => intro _; rfl
    | cons q r ih =>
      intro hr
      obtain ⟨hq, hr⟩ := bd_cons.mp hr
      rw [costQ, List.map_cons]
      by_cases h : q.lo ≤ x ∧ x ≤ q.hi
      · have z1 := hq.st; have z2 := hq.lo; have z3 := hq.hi
        have mo : mulOk q.st (x - q.lo) = true := mulH (by omega) (by omega)
        rw [if_pos h, forL_ret (z := .int (q.at x))]
        simp [w_law_cost_2_0, h, mo, Q.at]
      · rw [if_neg h, forL_nx (ρ' := [some R, some (.int x), none])]
        · exact ih hr
        · by_cases h1 : q.lo ≤ x
          · have h2 : ¬ x ≤ q.hi := fun h2 => h ⟨h1, h2⟩
            simp [w_law_cost_2_0, h1, h2]
          · simp [w_law_cost_2_0, h1]
  have k := loop qs hb
  have hs : evi fn (.seq (.var 0)) [some R, some (.int x), none] = .ok (qs.map Q.d) := by rw [evi_seq, ev_var]; exact hR
  cases hc : costQ qs x with
  | none =>
    rw [hc] at k
    exact out_of (go_for (xs := qs.map Q.d) hs k (go_ret rfl))
  | some z =>
    rw [hc] at k
    refine out_of ?_
    rw [b_law_cost_2, evCs_cons, evC_for]
    show seqO (thenO (evi fn (.seq (.var 0)) [some R, some (.int x), none]) _ _) _ = _
    rw [hs, thenO_ok]
    show seqO (forL _ _ [some R, some (.int x), none]) _ = _
    rw [k]; rfl
/-- the script's numbers, folded into so many -/
def S_law_numbers_3 (f : List D → R D) : Prop := ∀ (ns : List Int) (a m : Nat), (∀ c ∈ ns, Sm c) → ns.length ≤ 1000 → 0 < m → ∃ cs : List Int, f [.lst (ns.map .int), .int a, .int m] = .ok (.lst (cs.map .int)) ∧ cs.length ≤ m ∧ ∀ c ∈ cs, 0 ≤ c ∧ c < 10 ^ 45
theorem law_numbers_3_sp : S_law_numbers_3 (r_law_numbers_3 fn) := fun ns a m hns hl hm => by
  have p45 : powOk 10 45 = true := by decide +kernel
  rw [r_law_numbers_3_eq]
  have loop := forL_to (f := fun ρ x => thenO (bindT ρ (.one 4) x) ρ fun ρ' => evCs fn fuel w_law_numbers_3_0 ρ')
    (fun rest ρ => ∃ (cs : List Int) (k : Nat), rest = upto (k : Int) (ns.length - k) ∧ a ≤ k ∧ ρ = [some (.lst (ns.map .int)), some (.int a), some (.int m), some (.lst (cs.map .int)), none] ∧ (k - a ≤ cs.length ∨ cs.length = m) ∧ cs.length ≤ m ∧ cs.length ≤ k - a ∧ ∀ c ∈ cs, 0 ≤ c ∧ c < 10 ^ 45)
    (xs := upto a (ns.length - a)) (ρ := [some (.lst (ns.map .int)), some (.int a), some (.int m), some (.lst []), none])
    (fun ρ x rest hP => by
      obtain ⟨cs, k, h1, h2, rfl, h3, h4, h5, h6⟩ := hP
      cases hk : ns.length - k with
      | zero => rw [hk] at h1; cases h1
      | succ j =>
        rw [hk, upto] at h1
        obtain ⟨rfl, rfl⟩ := List.cons.inj h1
        have kl : k < ns.length := by omega
        have i := ix_ints (xs := ns) (i := k) (by omega) (by omega)
        simp only [Int.toNat_natCast] at i
        have hc := hns (ns.getD k 0) (by rw [List.getD_eq_getElem?_getD, List.getElem?_eq_getElem kl]; exact List.getElem_mem kl)
        generalize ns.getD k 0 = c at *
        by_cases hlt : cs.length < m
        · have b := fmod_bounds (a := c) (b := 1000000000000000000000000000000000000000000000) (by decide)
          refine ⟨[some (.lst (ns.map .int)), some (.int a), some (.int m), some (.lst ((cs ++ [c.fmod 1000000000000000000000000000000000000000000000]).map .int)), none], .inl ?_, cs ++ [c.fmod 1000000000000000000000000000000000000000000000], k + 1, ?_, by omega, rfl, by simp; omega, by simp; omega, by simp; omega, fun d hd => ?_⟩
          · have hl2 : cs.length < 16777216 := by omega
            simp [w_law_numbers_3_0, hlt, i, p45, hl2]
          · rw [show ns.length - (k + 1) = j by omega]; rfl
          · rcases List.mem_append.mp hd with e | e
            · exact h6 d e
            · rw [List.mem_singleton.mp e]; omega
        · have em : cs.length = m := by omega
          have jb := fmod_bounds (a := (k : Int)) (b := (m : Int)) (by omega)
          have hm0 : ¬ m = 0 := by omega
          generalize hJ : (k : Int).fmod m = J at *
          have i2 := ix_ints (xs := cs) (i := J) (by omega) (by omega)
          have hg := h6 (cs.getD J.toNat 0) (by rw [List.getD_eq_getElem?_getD, List.getElem?_eq_getElem (by omega)]; exact List.getElem_mem _)
          generalize cs.getD J.toNat 0 = g at *
          have mo : mulOk g 10007 = true := mulOk_lit (by omega) (by omega) (by omega) (by omega)
          have b := fmod_bounds (a := g * 10007 + c) (b := 1000000000000000000000000000000000000000000000) (by decide)
          have ixn : ixN cs.length J = some J.toNat := ixN_of (by omega) (by omega)
          refine ⟨[some (.lst (ns.map .int)), some (.int a), some (.int m), some (.lst ((cs.set J.toNat ((g * 10007 + c).fmod 1000000000000000000000000000000000000000000000)).map .int)), none], .inl ?_, cs.set J.toNat ((g * 10007 + c).fmod 1000000000000000000000000000000000000000000000), k + 1, ?_, by omega, rfl, by simp; omega, by simp; omega, by simp; omega, fun d hd => ?_⟩
          · simp [w_law_numbers_3_0, hlt, i, p45, hm0, hJ, i2, mo, ixn, List.map_set]
          · rw [show ns.length - (k + 1) = j by omega]; rfl
          · rcases List.mem_or_eq_of_mem_set hd with e | e
            · exact h6 d e
            · rw [e]; omega)
    ⟨[], a, rfl, Nat.le_refl _, rfl, by simp, by simp, by simp, by simp⟩
  obtain ⟨ρ', l1, cs, k, h1, h2, rfl, h3, h4, h5, h6⟩ := loop
  have hk : ns.length - k = 0 := by
    cases h : ns.length - k with
    | zero => rfl
    | succ j => rw [h] at h1; cases h1
  refine ⟨cs, out_of (go_own (z := .lst []) rfl (go_for (xs := upto a (ns.length - a)) ?_ l1 (go_retM rfl))), h4, h6⟩
  simp [initE]
/-- the amounts looked at -/
def nearQ : List Q → List Int
  | [] => []
  | q :: r => (q.lo - 1) :: q.lo :: (q.lo + 1) :: q.hi :: (q.hi + 1) :: nearQ r
def S_law_near (f : List D → R D) : Prop := ∀ (A B : D) (l r : List Q), biD .list [A] = .ok (.lst (l.map Q.d)) → biD .list [B] = .ok (.lst (r.map Q.d)) → l.length + r.length ≤ 1000000 → f [A, B] = .ok (.lst ((nearQ (l ++ r)).map .int))
theorem law_near_sp : S_law_near (r_law_near fn) := fun A B l r hA hB hl => by
  rw [r_law_near_eq]
  have loop : ∀ (todo : List Q) (cs : List Int), cs.length + 5 * todo.length ≤ 10000000 → forL (fun ρ x => thenO (bindT ρ (.one 3) x) ρ fun ρ' => evCs fn fuel w_law_near_0 ρ') (todo.map Q.d) [some A, some B, some (.lst (cs.map .int)), none] = .nx [some A, some B, some (.lst ((cs ++ nearQ todo).map .int)), none] := by
    intro todo
    induction todo with
    | nil => intro cs _; simp [nearQ]
    | cons q t ih =>
      intro cs h
      simp only [List.length_cons] at h
      rw [List.map_cons, forL_nx (ρ' := [some A, some B, some (.lst ((cs ++ [q.lo - 1, q.lo, q.lo + 1, q.hi, q.hi + 1]).map .int)), none]), ih _ (by simp; omega)]
      · simp [nearQ]
      · have h2 : cs.length ≤ 16777211 := by omega
        simp [w_law_near_0, h2]
  refine out_of (go_own (z := .lst []) rfl (go_for (xs := (l ++ r).map Q.d) ?_ (loop (l ++ r) [] (by simp; omega)) (go_retM rfl)))
  have h2 : l.length + r.length ≤ 16777216 := by omega
  simp [initE, hA, hB, h2]
end Den
namespace Den
open PySem PySem.Spec PyProof.Rows L2
variable {fn : Nat → List D → R D}
def w_law_form_0 : Cmds := (.cons (.set 5 (.bin .mod (.bin .mul (.var 4) (.cst (.int 48271))) (.cst (.int 1000003)))) (.cons (.set 6 (.ix (.lst (.cons (.cst (.int 0)) (.cons (.cst (.int 0)) (.cons (.cst (.int 0)) (.cons (.cst (.int 1)) (.cons (.cst (.int 2)) (.cons (.bin .add (.cst (.int 3)) (.bin .mod (.bin .fdiv (.var 5) (.cst (.int 7))) (.cst (.int 50)))) (.cons (.bin .add (.cst (.int 1)) (.bin .mod (.bin .fdiv (.var 4) (.cst (.int 7))) (.bin .pow (.cst (.int 10)) (.cst (.int 30))))) .nil)))))))) (.bin .mod (.var 5) (.cst (.int 7))))) (.cons (.set 7 (.ix (.lst (.cons (.cst (.int 1)) (.cons (.cst (.int 2)) (.cons (.cst (.int 3)) (.cons (.bin .add (.cst (.int 2)) (.bin .mod (.bin .fdiv (.var 5) (.cst (.int 7))) (.cst (.int 7)))) (.cons (.bin .add (.cst (.int 2)) (.bin .mod (.bin .fdiv (.var 4) (.cst (.int 5))) (.bin .pow (.cst (.int 10)) (.cst (.int 30))))) .nil)))))) (.bin .mod (.bin .fdiv (.var 5) (.cst (.int 7))) (.cst (.int 5))))) (.cons (.set 8 (.ix (.lst (.cons (.cst (.int 0)) (.cons (.bin .sub (.bin .mod (.bin .fdiv (.var 5) (.cst (.int 105))) (.cst (.int 7))) (.cst (.int 3))) (.cons (.bin .sub (.bin .mod (.bin .fdiv (.var 4) (.cst (.int 3))) (.bin .add (.bin .mul (.cst (.int 2)) (.bin .pow (.cst (.int 10)) (.cst (.int 30)))) (.cst (.int 1)))) (.bin .pow (.cst (.int 10)) (.cst (.int 30)))) .nil)))) (.bin .mod (.bin .fdiv (.var 5) (.cst (.int 35))) (.cst (.int 3))))) (.cons (.set 9 (.ix (.lst (.cons (.bin .sub (.bin .mod (.bin .fdiv (.var 5) (.cst (.int 735))) (.cst (.int 41))) (.cst (.int 20))) (.cons (.bin .sub (.bin .mod (.bin .fdiv (.var 4) (.cst (.int 11))) (.bin .add (.bin .mul (.cst (.int 2)) (.bin .pow (.cst (.int 10)) (.cst (.int 40)))) (.cst (.int 1)))) (.bin .pow (.cst (.int 10)) (.cst (.int 40)))) .nil))) (.bin .mod (.bin .fdiv (.var 5) (.cst (.int 105))) (.cst (.int 2))))) (.cons (.if_ (.and_ (.cmp .gt (.bi .len (.cons (.var 2) .nil)) (.cst (.int 0))) (.and_ (.cmp .eq (.ix (.ix (.var 2) (.neg (.cst (.int 1)))) (.cst (.int 0))) (.ix (.ix (.var 2) (.neg (.cst (.int 1)))) (.cst (.int 1)))) (.cmp .eq (.var 6) (.cst (.int 0))))) (.cons (.set 6 (.cst (.int 1))) .nil) .nil) (.cons (.set 10 (.bin .add (.var 3) (.var 6))) (.cons (.if_ (.and_ (.cmp .gt (.bi .len (.cons (.var 2) .nil)) (.cst (.int 0))) (.cmp .eq (.var 9) (.bin .add (.ix (.ix (.var 2) (.neg (.cst (.int 1)))) (.cst (.int 2))) (.bin .mul (.ix (.ix (.var 2) (.neg (.cst (.int 1)))) (.cst (.int 3))) (.bin .sub (.var 10) (.ix (.ix (.var 2) (.neg (.cst (.int 1)))) (.cst (.int 0)))))))) (.cons (.set 9 (.bin .add (.var 9) (.cst (.int 1)))) .nil) .nil) (.cons (.if_ (.cmp .eq (.var 7) (.cst (.int 1))) (.cons (.set 8 (.cst (.int 0))) .nil) .nil) (.cons (.app 2 (.tup (.cons (.var 10) (.cons (.bin .sub (.bin .add (.var 10) (.var 7)) (.cst (.int 1))) (.cons (.var 9) (.cons (.var 8) .nil)))))) (.cons (.set 3 (.bin .add (.var 10) (.var 7))) (.cons (.kill [4, 5, 6, 7, 8, 9, 10]) .nil))))))))))))
def b_law_form : Cmds := (.cons (.own 2 (.lst .nil)) (.cons (.set 3 (.var 1)) (.cons (.for_ (.seq (.var 0)) (.one 4) w_law_form_0) (.cons (.ret (.bi .tuple (.cons (.var 2) .nil))) .nil))))
abbrev r_law_form (fn : Nat → List D → R D) : List D → R D := runF fn fuel 11 false b_law_form
theorem r_law_form_eq (fn zs) : r_law_form fn zs = outO false (evCs fn fuel b_law_form (initE 11 zs)) := runF_eq _ _ _ _ _ _
theorem r_law_form_at (fn : Nat → List D → R D) (z0 z1 : D) : r_law_form fn [z0, z1] = outO false (evCs fn fuel b_law_form [some z0, some z1, none, none, none, none, none, none, none, none, none]) := r_law_form_eq fn _
def b_law_two : Cmds := (.cons (.set 3 (.call 59 (.cons (.var 0) (.cons (.var 1) (.cons (.var 2) .nil))))) (.cons (.set 4 (.call 34 (.cons (.call 24 (.cons (.var 0) (.cons (.cst (.int 0)) .nil))) .nil))) (.cons (.set 5 (.bin .mod (.call 24 (.cons (.var 0) (.cons (.cst (.int 1)) .nil))) (.bin .add (.bi .len (.cons (.var 3) .nil)) (.cst (.int 1))))) (.cons (.set 6 (.call 35 (.cons (.slT (.var 3) (.var 5)) (.cons (.var 4) .nil)))) (.cons (.set 7 (.bin .sub (.bin .mod (.bin .fdiv (.call 24 (.cons (.var 0) (.cons (.cst (.int 1)) .nil))) (.cst (.int 50))) (.cst (.int 9))) (.cst (.int 4)))) (.cons (.if_ (.cmp .eq (.bin .mod (.bin .fdiv (.call 24 (.cons (.var 0) (.cons (.cst (.int 1)) .nil))) (.cst (.int 450))) (.cst (.int 5))) (.cst (.int 1))) (.cons (.set 7 (.bin .sub (.bin .mod (.bin .fdiv (.call 24 (.cons (.var 0) (.cons (.cst (.int 1)) .nil))) (.cst (.int 2250))) (.bin .mul (.cst (.int 2)) (.bin .pow (.cst (.int 10)) (.cst (.int 30))))) (.bin .pow (.cst (.int 10)) (.cst (.int 30))))) .nil) .nil) (.cons (.ret (.tup (.cons (.var 6) (.cons (.call 35 (.cons (.slF (.var 3) (.var 5)) (.cons (.bin .add (.var 4) (.var 7)) .nil))) .nil)))) .nil)))))))
abbrev r_law_two (fn : Nat → List D → R D) : List D → R D := runF fn fuel 8 false b_law_two
theorem r_law_two_eq (fn zs) : r_law_two fn zs = outO false (evCs fn fuel b_law_two (initE 8 zs)) := runF_eq _ _ _ _ _ _
theorem r_law_two_at (fn : Nat → List D → R D) (z0 z1 z2 : D) : r_law_two fn [z0, z1, z2] = outO false (evCs fn fuel b_law_two [some z0, some z1, some z2, none, none, none, none, none]) := r_law_two_eq fn _
set_option maxHeartbeats 0 in
theorem form_turn (C S : Option D) {T : List D} {at_ c : Int} (hT : T = [] ∨ ∃ a : Q, a.bd (2 ^ 240) ∧ (0 : Int) < T.length ∧ ixD (.lst T) (.int (-1)) = .ok a.d) (hl : T.length < 16777216) (hc : Sm c) (ha : at_.natAbs ≤ 2 ^ 240) :
    ∃ q : Q, evCs fn fuel w_law_form_0 [C, S, some (.lst T), some (.int at_), some (.int c), none, none, none, none, none, none] = .nx [C, S, some (.lst (T ++ [q.d])), some (.int (q.hi + 1)), none, none, none, none, none, none, none] ∧
      q.lo ≤ q.hi ∧ (q.lo = q.hi → q.st = 0) ∧ q.pr.natAbs ≤ 2 ^ 142 ∧ q.st.natAbs ≤ 2 ^ 102 ∧ at_ ≤ q.lo ∧ q.hi ≤ at_ + 2 ^ 110 ∧
      (∀ a : Q, (0 : Int) < T.length → ixD (.lst T) (.int (-1)) = .ok a.d → at_ = a.hi + 1 → a.nxt q) := by
  have hm := fmod_bounds (a := c * 48271) (b := 1000003) (by decide)
  have m0 := hc.mul (j := 48271) (by decide)
  generalize hmm : (c * 48271).fmod 1000003 = m at hm
  have q7 := fmod_bounds (a := m) (b := 7) (by decide)
  have q5 := fmod_bounds (a := m.fdiv 7) (b := 5) (by decide)
  have q3 := fmod_bounds (a := m.fdiv 35) (b := 3) (by decide)
  have q2 := fmod_bounds (a := m.fdiv 105) (b := 2) (by decide)
  have b1 := fmod_bounds (a := m.fdiv 7) (b := 50) (by decide)
  have b2 := fmod_bounds (a := c.fdiv 7) (b := 1000000000000000000000000000000) (by decide)
  have b3 := fmod_bounds (a := m.fdiv 7) (b := 7) (by decide)
  have b4 := fmod_bounds (a := c.fdiv 5) (b := 1000000000000000000000000000000) (by decide)
  have b5 := fmod_bounds (a := m.fdiv 105) (b := 7) (by decide)
  have b6 := fmod_bounds (a := c.fdiv 3) (b := 2000000000000000000000000000001) (by decide)
  have b7 := fmod_bounds (a := m.fdiv 735) (b := 41) (by decide)
  have b8 := fmod_bounds (a := c.fdiv 11) (b := 20000000000000000000000000000000000000001) (by decide)
  obtain ⟨g, gm, gx⟩ := pick [0, 0, 0, 1, 2, 3 + (m.fdiv 7).fmod 50, 1 + (c.fdiv 7).fmod 1000000000000000000000000000000] q7.1 (by simp only [List.length]; omega)
  obtain ⟨n, nm, nx⟩ := pick [1, 2, 3, 2 + (m.fdiv 7).fmod 7, 2 + (c.fdiv 5).fmod 1000000000000000000000000000000] q5.1 (by simp only [List.length]; omega)
  obtain ⟨s, sm, sx⟩ := pick [0, (m.fdiv 105).fmod 7 - 3, (c.fdiv 3).fmod 2000000000000000000000000000001 - 1000000000000000000000000000000] q3.1 (by simp only [List.length]; omega)
  obtain ⟨p, pm, px⟩ := pick [(m.fdiv 735).fmod 41 - 20, (c.fdiv 11).fmod 20000000000000000000000000000000000000001 - 10000000000000000000000000000000000000000] q2.1 (by simp only [List.length]; omega)
  have gb : 0 ≤ g ∧ g ≤ 2 ^ 102 := by simp only [List.mem_cons, List.not_mem_nil, or_false] at gm; omega
  have nb : 1 ≤ n ∧ n ≤ 2 ^ 102 := by simp only [List.mem_cons, List.not_mem_nil, or_false] at nm; omega
  have sb : s.natAbs ≤ 2 ^ 102 := by simp only [List.mem_cons, List.not_mem_nil, or_false] at sm; omega
  have pb : p.natAbs ≤ 2 ^ 140 := by simp only [List.mem_cons, List.not_mem_nil, or_false] at pm; omega
  simp only [List.map_cons, List.map_nil] at gx nx sx px
  have d7 : divOk 7 = true := by decide +kernel
  have d5 : divOk 5 = true := by decide +kernel
  have d3 : divOk 3 = true := by decide +kernel
  have d11 : divOk 11 = true := by decide +kernel
  have d35 : divOk 35 = true := by decide +kernel
  have d105 : divOk 105 = true := by decide +kernel
  have d735 : divOk 735 = true := by decide +kernel
  have w30 : powOk 10 30 = true := by decide +kernel
  have w40 : powOk 10 40 = true := by decide +kernel
  have u30 : mulOk 2 1000000000000000000000000000000 = true := by decide +kernel
  have u40 : mulOk 2 10000000000000000000000000000000000000000 = true := by decide +kernel
  have head : ∀ r o, evCs fn fuel r [C, S, some (.lst T), some (.int at_), some (.int c), some (.int m), some (.int g), some (.int n), some (.int s), some (.int p), none] = o →
      evCs fn fuel (match w_law_form_0 with | .cons a (.cons b (.cons c (.cons d (.cons e _)))) => .cons a (.cons b (.cons c (.cons d (.cons e r)))) | _ => .nil) [C, S, some (.lst T), some (.int at_), some (.int c), none, none, none, none, none, none] = o := by
    intro r o h
    simp only [w_law_form_0]
    refine go_set (z := .int m) (by simp [m0, hmm]) (go_set (z := .int g) ?_ (go_set (z := .int n) ?_ (go_set (z := .int s) ?_ (go_set (z := .int p) ?_ h))))
    · simp [d7, w30, gx]
    · simp [d7, d5, w30, nx]
    · simp [d3, d35, d105, w30, u30, sx]
    · simp [d11, d105, d735, w40, u40, px]
  rcases hT with hT | ⟨a, hsm, hlen, hix⟩
  · subst hT
    by_cases h1 : n = 1
    · refine ⟨⟨at_ + g, at_ + g + n - 1, p, 0⟩, head _ _ ?_, by simp only; omega, by simp, by simp only; omega, by simp, by simp only; omega, by simp only; omega, fun a h => by simp at h⟩
      simp [h1, tup_q, hl]
    · refine ⟨⟨at_ + g, at_ + g + n - 1, p, s⟩, head _ _ ?_, by simp only; omega, by simp only; omega, by simp only; omega, by simp only; omega, by simp only; omega, by simp only; omega, fun a h => by simp at h⟩
      simp [h1, tup_q, hl]
  · have s1 := hsm.lo; have s2 := hsm.hi; have s3 := hsm.pr; have s4 := hsm.st
    have hne : T ≠ [] := fun e => by rw [e] at hlen; simp at hlen
    have hlen0 : 0 < T.length := by omega
    obtain ⟨g', hg', gb'⟩ : ∃ g' : Int, g' = (if a.lo = a.hi ∧ g = 0 then 1 else g) ∧ (g ≤ g' ∧ g' ≤ 2 ^ 102 ∧ (a.lo = a.hi → 0 < g')) := ⟨_, rfl, by split <;> omega⟩
    have e1 : evC fn fuel (.if_ (.and_ (.cmp .gt (.bi .len (.cons (.var 2) .nil)) (.cst (.int 0))) (.and_ (.cmp .eq (.ix (.ix (.var 2) (.neg (.cst (.int 1)))) (.cst (.int 0))) (.ix (.ix (.var 2) (.neg (.cst (.int 1)))) (.cst (.int 1)))) (.cmp .eq (.var 6) (.cst (.int 0))))) (.cons (.set 6 (.cst (.int 1))) .nil) .nil) [C, S, some (.lst T), some (.int at_), some (.int c), some (.int m), some (.int g), some (.int n), some (.int s), some (.int p), none] = .nx [C, S, some (.lst T), some (.int at_), some (.int c), some (.int m), some (.int g'), some (.int n), some (.int s), some (.int p), none] := by
      by_cases h1 : a.lo = a.hi <;> by_cases h2 : g = 0 <;> simp [hne, hlen0, hix, h1, h2, hg']
    have mo : mulOk a.st (at_ + g' - a.lo) = true := by
      have z1 : a.st.natAbs < 2 ^ 251 := by omega
      have z2 : (at_ + g' - a.lo).natAbs < 2 ^ 252 := by omega
      exact mulOk_of 251 252 z1 z2
    obtain ⟨p', hp', pb'⟩ : ∃ p' : Int, p' = (if p = a.pr + a.st * (at_ + g' - a.lo) then p + 1 else p) ∧ (p'.natAbs ≤ 2 ^ 141 ∧ p' ≠ a.pr + a.st * (at_ + g' - a.lo)) := ⟨_, rfl, by generalize a.st * (at_ + g' - a.lo) = Z; split <;> omega⟩
    have e2 : evC fn fuel (.if_ (.and_ (.cmp .gt (.bi .len (.cons (.var 2) .nil)) (.cst (.int 0))) (.cmp .eq (.var 9) (.bin .add (.ix (.ix (.var 2) (.neg (.cst (.int 1)))) (.cst (.int 2))) (.bin .mul (.ix (.ix (.var 2) (.neg (.cst (.int 1)))) (.cst (.int 3))) (.bin .sub (.var 10) (.ix (.ix (.var 2) (.neg (.cst (.int 1)))) (.cst (.int 0)))))))) (.cons (.set 9 (.bin .add (.var 9) (.cst (.int 1)))) .nil) .nil) [C, S, some (.lst T), some (.int at_), some (.int c), some (.int m), some (.int g'), some (.int n), some (.int s), some (.int p), some (.int (at_ + g'))] = .nx [C, S, some (.lst T), some (.int at_), some (.int c), some (.int m), some (.int g'), some (.int n), some (.int s), some (.int p'), some (.int (at_ + g'))] := by
      generalize at_ + g' = G at *
      by_cases h1 : p = a.pr + a.st * (G - a.lo)
      · rw [if_pos h1] at hp'
        simp [hne, hlen0, hix, mo, hp', ← h1]
      · rw [if_neg h1] at hp'
        simp [hne, hlen0, hix, mo, hp', h1]
    have last : ∀ st : Int, a.nxt ⟨at_ + g', at_ + g' + n - 1, p', st⟩ ∨ at_ ≠ a.hi + 1 := fun st => by
      by_cases h : at_ = a.hi + 1
      · exact .inl ⟨by simp only; omega, fun e => ⟨fun e2 => by simp only at e; have := gb'.2.2 e2; omega, pb'.2⟩⟩
      · exact .inr h
    have uni : ∀ b : Q, ixD (.lst T) (.int (-1)) = .ok b.d → b = a := fun b e => by
      rw [hix] at e
      have := R.ok.inj e
      unfold Q.d at this
      cases a; cases b
      simp at this
      simp [this]
    by_cases h1 : n = 1
    · refine ⟨⟨at_ + g', at_ + g' + n - 1, p', 0⟩, head _ _ (go_cmd e1 (go_set (z := .int (at_ + g')) (by simp) (go_cmd e2 ?_))), by simp only; omega, by simp, by simp only; omega, by simp, by simp only; omega, by simp only; omega, fun b h e e3 => by rw [uni b e] at e3 ⊢; exact (last 0).resolve_right (by omega)⟩
      simp [h1, tup_q, hl]
    · refine ⟨⟨at_ + g', at_ + g' + n - 1, p', s⟩, head _ _ (go_cmd e1 (go_set (z := .int (at_ + g')) (by simp) (go_cmd e2 ?_))), by simp only; omega, by simp only; omega, by simp only; omega, by simp only; omega, by simp only; omega, by simp only; omega, fun b h e e3 => by rw [uni b e] at e3 ⊢; exact (last s).resolve_right (by omega)⟩
      simp [h1, tup_q, hl]

/-- the drawn form is a form -/
def S_law_form (f : List D → R D) : Prop := ∀ (cs : List Int) (start : Int), cs.length ≤ 1000 → (∀ c ∈ cs, Sm c) → start.natAbs ≤ 2 ^ 201 → ∃ qs : List Q, f [.lst (cs.map .int), .int start] = .ok (fD qs) ∧ Can qs ∧ qs.length = cs.length ∧ Bd (2 ^ 240) qs
theorem law_form_sp : S_law_form (r_law_form fn) := fun cs start hn hc hs => by
  rw [r_law_form_eq]
  have loop := forL_to (f := fun ρ x => thenO (bindT ρ (.one 4) x) ρ fun ρ' => evCs fn fuel w_law_form_0 ρ')
    (fun rest ρ => ∃ (qs : List Q) (ds : List Int) (at_ : Int), rest = ds.map .int ∧ (∀ c ∈ ds, Sm c) ∧ ds.length + qs.length = cs.length ∧ ρ = [some (.lst (cs.map .int)), some (.int start), some (.lst (qs.map Q.d)), some (.int at_), none, none, none, none, none, none, none] ∧ Can qs ∧ Bd (2 ^ 240) qs ∧
      at_.natAbs + ds.length * 2 ^ 111 ≤ 2 ^ 201 + 1000 * 2 ^ 111 ∧ ∀ r a, qs = r ++ [a] → at_ = a.hi + 1)
    (xs := cs.map .int) (ρ := [some (.lst (cs.map .int)), some (.int start), some (.lst []), some (.int start), none, none, none, none, none, none, none])
    (fun ρ x rest hP => by
      obtain ⟨qs, ds, at_, h1, h2, h3, rfl, h5, hB, h6, h7⟩ := hP
      cases ds with
      | nil => cases h1
      | cons c ds =>
        rw [List.map_cons] at h1
        obtain ⟨rfl, rfl⟩ := List.cons.inj h1
        simp only [List.length_cons] at h3 h6
        have hT : qs.map Q.d = [] ∨ ∃ a : Q, a.bd (2 ^ 240) ∧ (0 : Int) < (qs.map Q.d).length ∧ ixD (.lst (qs.map Q.d)) (.int (-1)) = .ok a.d := by
          rcases List.eq_nil_or_concat qs with e | ⟨r, a, e⟩
          · rw [e]; exact .inl rfl
          · rw [List.concat_eq_append] at e
            subst e
            exact .inr ⟨a, hB a (by simp), by simp, ix_last (by simp)⟩
        obtain ⟨q, e, k1, k2, k3, k4, k5, k6, k7⟩ := form_turn (fn := fn) (some (.lst (cs.map .int))) (some (.int start)) (at_ := at_) hT (by rw [List.length_map]; omega) (h2 c (.head _)) (by omega)
        have hq : q.bd (2 ^ 240) := by
          have z : (q.st * (q.hi - q.lo)).natAbs ≤ 2 ^ 102 * 2 ^ 111 := abs_mul k4 (by omega)
          refine ⟨by omega, by omega, by omega, by omega, ?_⟩
          unfold Q.at
          omega
        refine ⟨_, .inl e, qs ++ [q], ds, q.hi + 1, rfl, fun c hc => h2 c (.tail _ hc), by simp; omega, by simp, ?_, bd_app.mpr ⟨hB, bd_cons.mpr ⟨hq, Bd.nil⟩⟩, by omega, fun r a e => ?_⟩
        · rcases List.eq_nil_or_concat qs with e | ⟨r, a, e⟩
          · rw [e]; exact .one k1 k2
          · rw [List.concat_eq_append] at e
            subst e
            exact h5.snoc (k7 a (by simp) (ix_last (by simp)) (h7 r a rfl)) k1 k2
        · have := (List.append_inj' e rfl).2
          rw [List.cons.inj this |>.1])
    ⟨[], cs, start, rfl, hc, by simp, rfl, .nil, Bd.nil, by omega, fun r a e => by simp at e⟩
  obtain ⟨ρ', l1, qs, ds, at_, h1, h2, h3, rfl, h5, hB, h6, h7⟩ := loop
  have hd : ds = [] := by cases ds with
    | nil => rfl
    | cons c ds => cases h1
  subst hd
  refine ⟨qs, out_of (go_own (z := .lst []) rfl (go_set (z := .int start) rfl (go_for (xs := cs.map .int) rfl l1 (go_ret ?_)))), h5, by simpa using h3, hB⟩
  simp
end Den
namespace Den
theorem nadd {a b : Int} {N M : Nat} (ha : a.natAbs ≤ N) (hb : b.natAbs ≤ M) : (a + b).natAbs ≤ N + M := by omega
/-! ### deeds on stretches -/
def clipQ (q : Q) (lo hi : Int) : List Q := if min hi q.hi < max lo q.lo then [] else [⟨max lo q.lo, min hi q.hi, q.at (max lo q.lo), q.st⟩]
theorem clip_cost (q : Q) (lo hi x : Int) : costQ (clipQ q lo hi) x = if lo ≤ x ∧ x ≤ hi then costQ [q] x else none := by
  unfold clipQ
  by_cases h : min hi q.hi < max lo q.lo
  · rw [if_pos h]
    by_cases h2 : lo ≤ x ∧ x ≤ hi
    · simp only [costQ]; rw [if_pos h2, if_neg (by omega)]
    · rw [if_neg h2]; rfl
  · rw [if_neg h, costQ, costQ, sub_at]
    simp only [costQ]
    by_cases h2 : lo ≤ x ∧ x ≤ hi
    · rw [if_pos h2]
      by_cases h3 : q.lo ≤ x ∧ x ≤ q.hi
      · rw [if_pos h3, if_pos (by omega)]
      · rw [if_neg h3, if_neg (by omega)]
    · rw [if_neg h2, if_neg (by omega)]
theorem clip_mem {q p : Q} {lo hi : Int} (h : p ∈ clipQ q lo hi) : p = ⟨max lo q.lo, min hi q.hi, q.at (max lo q.lo), q.st⟩ ∧ max lo q.lo ≤ min hi q.hi := by
  unfold clipQ at h
  split at h
  · cases h
  · exact ⟨List.mem_singleton.mp h, by omega⟩
theorem clip_in {q p : Q} {lo hi : Int} (h : p ∈ clipQ q lo hi) : p.lo ≤ p.hi ∧ lo ≤ p.lo ∧ p.hi ≤ hi ∧ q.lo ≤ p.lo ∧ p.hi ≤ q.hi := by
  obtain ⟨e, h2⟩ := clip_mem h
  subst e
  simp only
  omega
theorem clip_asc (q : Q) (lo hi : Int) : Asc (clipQ q lo hi) := by
  unfold clipQ
  split
  · exact .nil
  · exact .one (by simp only; omega)
theorem clip_bd {N : Nat} {q : Q} (h : q.bd N) (lo hi : Int) : Bd N (clipQ q lo hi) := by
  unfold clipQ
  split
  · exact Bd.nil
  · exact bd_cons.mpr ⟨h.sub (by omega) (by omega) (by omega), Bd.nil⟩
theorem clip_len (q : Q) (lo hi : Int) : (clipQ q lo hi).length ≤ 1 := by unfold clipQ; split <;> simp
/-- rows out of each stretch, within it -/
theorem flat_asc {f : Q → List Q} {l : List Q} (h : Asc l) (ha : ∀ q ∈ l, Asc (f q)) (hf : ∀ q ∈ l, ∀ p ∈ f q, q.lo ≤ p.lo ∧ p.hi ≤ q.hi) : Asc (l.flatMap f) := by
  induction l with
  | nil => exact .nil
  | cons q r ih =>
    obtain ⟨h1, h2, h3⟩ := asc_cons.mp h
    rw [List.flatMap_cons]
    refine asc_app.mpr ⟨ha q (.head _), ih h3 (fun p hp => ha p (.tail _ hp)) fun p hp => hf p (.tail _ hp), fun a hm b hb => ?_⟩
    obtain ⟨p, hp, hb⟩ := List.mem_flatMap.mp hb
    have k1 := hf q (.head _) a hm
    have k2 := hf p (.tail _ hp) b hb
    have := h2 p hp
    omega
theorem flat_bd {N : Nat} {f : Q → List Q} {l : List Q} (h : ∀ q ∈ l, Bd N (f q)) : Bd N (l.flatMap f) := fun p hp => by
  obtain ⟨q, hq, hp⟩ := List.mem_flatMap.mp hp
  exact h q hq p hp
theorem flat_cost {f : Q → List Q} {l : List Q} {x : Int} {o : Int → Option Int → Option Int} (h : ∀ q ∈ l, costQ (f q) x = o x (costQ [q] x)) (ho : o x none = none) (hs : ∀ a b, o x (Option.or a b) = Option.or (o x a) (o x b)) : costQ (l.flatMap f) x = o x (costQ l x) := by
  induction l with
  | nil => exact ho.symm
  | cons q r ih =>
    rw [List.flatMap_cons, costQ_app, h q (.head _), ih fun p hp => h p (.tail _ hp), ← hs, ← costQ_app]; rfl
theorem flat_len {f : Q → List Q} {l : List Q} {n : Nat} (h : ∀ q ∈ l, (f q).length ≤ n) : (l.flatMap f).length ≤ n * l.length := by
  induction l with
  | nil => simp
  | cons q r ih =>
    rw [List.flatMap_cons, List.length_append, List.length_cons, Nat.mul_succ]
    have := h q (.head _)
    have := ih fun p hp => h p (.tail _ hp)
    omega
def withinR (l : List Q) (lo hi : Int) : List Q := l.flatMap fun q => clipQ q lo hi
theorem within_cost (l : List Q) (lo hi x : Int) : costQ (withinR l lo hi) x = if lo ≤ x ∧ x ≤ hi then costQ l x else none :=
  flat_cost (o := fun x a => if lo ≤ x ∧ x ≤ hi then a else none) (fun q _ => clip_cost q lo hi x) (by split <;> rfl) (fun a b => by split <;> rfl)
theorem within_asc {l : List Q} (h : Asc l) (lo hi : Int) : Asc (withinR l lo hi) := flat_asc h (fun q _ => clip_asc q lo hi) fun q _ p hp => ⟨(clip_in hp).2.2.2.1, (clip_in hp).2.2.2.2⟩
theorem within_bd {N : Nat} {l : List Q} (h : Bd N l) (lo hi : Int) : Bd N (withinR l lo hi) := flat_bd fun q hq => clip_bd (h q hq) lo hi
theorem within_len (l : List Q) (lo hi : Int) : (withinR l lo hi).length ≤ l.length := by
  have := flat_len (f := fun q => clipQ q lo hi) (l := l) (n := 1) fun q _ => clip_len q lo hi
  unfold withinR; omega
def withoutR (l : List Q) (lo hi : Int) : List Q := if hi < lo then l else l.flatMap fun q => clipQ q q.lo (lo - 1) ++ clipQ q (hi + 1) q.hi
theorem without_cost (l : List Q) (lo hi x : Int) : costQ (withoutR l lo hi) x = if lo ≤ x ∧ x ≤ hi then none else costQ l x := by
  unfold withoutR
  by_cases h : hi < lo
  · rw [if_pos h, if_neg (by omega)]
  · rw [if_neg h]
    refine flat_cost (o := fun x a => if lo ≤ x ∧ x ≤ hi then none else a) (fun q _ => ?_) (by split <;> rfl) (fun a b => by split <;> rfl)
    rw [costQ_app, clip_cost, clip_cost]
    simp only [costQ]
    by_cases h1 : q.lo ≤ x ∧ x ≤ q.hi
    · rw [if_pos h1]
      by_cases h2 : lo ≤ x ∧ x ≤ hi
      · rw [if_pos h2, if_neg (by omega), if_neg (by omega)]; rfl
      · rw [if_neg h2]
        by_cases h3 : x < lo
        · rw [if_pos (by omega)]; rfl
        · rw [if_neg (by omega), if_pos (by omega)]; rfl
    · rw [if_neg h1]
      split <;> split <;> split <;> rfl
theorem without_asc {l : List Q} (h : Asc l) (lo hi : Int) : Asc (withoutR l lo hi) := by
  unfold withoutR
  split
  · exact h
  · refine flat_asc h (fun q _ => asc_app.mpr ⟨clip_asc _ _ _, clip_asc _ _ _, fun a ha b hb => ?_⟩) fun q _ p hp => ?_
    · have k1 := clip_in ha; have k2 := clip_in hb; omega
    · rcases List.mem_append.mp hp with e | e
      · have := clip_in e; omega
      · have := clip_in e; omega
theorem without_bd {N : Nat} {l : List Q} (h : Bd N l) (lo hi : Int) : Bd N (withoutR l lo hi) := by
  unfold withoutR
  split
  · exact h
  · exact flat_bd fun q hq => bd_app.mpr ⟨clip_bd (h q hq) _ _, clip_bd (h q hq) _ _⟩
theorem without_len (l : List Q) (lo hi : Int) : (withoutR l lo hi).length ≤ 2 * l.length := by
  unfold withoutR
  split
  · omega
  · exact flat_len fun q _ => by rw [List.length_append]; have := clip_len q q.lo (lo - 1); have := clip_len q (hi + 1) q.hi; omega
/-! ### each stretch turned -/
def Q.mul (k : Int) (q : Q) : Q := ⟨q.lo, q.hi, q.pr * k, q.st * k⟩
def Q.rise (p : Int) (q : Q) : Q := ⟨q.lo, q.hi, q.pr + p, q.st⟩
def Q.move (c : Int) (q : Q) : Q := ⟨q.lo + c, q.hi + c, q.pr, q.st⟩
theorem mul_at (k : Int) (q : Q) (x : Int) : (q.mul k).at x = q.at x * k := by
  unfold Q.at Q.mul
  rw [Int.add_mul, Int.mul_right_comm]
theorem rise_at (p : Int) (q : Q) (x : Int) : (q.rise p).at x = q.at x + p := by unfold Q.at Q.rise; simp only; omega
theorem move_at (c : Int) (q : Q) (x : Int) : (q.move c).at x = q.at (x - c) := by
  unfold Q.at Q.move; simp only; congr 2; omega
theorem map_asc {f : Q → Q} {l : List Q} {c : Int} (h : Asc l) (hl : ∀ q ∈ l, (f q).lo = q.lo + c) (hh : ∀ q ∈ l, (f q).hi = q.hi + c) : Asc (l.map f) := by
  induction l with
  | nil => exact .nil
  | cons q r ih =>
    obtain ⟨h1, h2, h3⟩ := asc_cons.mp h
    rw [List.map_cons]
    refine asc_cons.mpr ⟨by rw [hl q (.head _), hh q (.head _)]; omega, fun b hb => ?_, ih h3 (fun p hp => hl p (.tail _ hp)) fun p hp => hh p (.tail _ hp)⟩
    obtain ⟨p, hp, rfl⟩ := List.mem_map.mp hb
    rw [hh q (.head _), hl p (.tail _ hp)]
    have := h2 p hp; omega
theorem mul_asc {l : List Q} (h : Asc l) (k : Int) : Asc (l.map (Q.mul k)) := map_asc (c := 0) h (fun q _ => (Int.add_zero _).symm) fun q _ => (Int.add_zero _).symm
theorem rise_asc {l : List Q} (h : Asc l) (k : Int) : Asc (l.map (Q.rise k)) := map_asc (c := 0) h (fun q _ => (Int.add_zero _).symm) fun q _ => (Int.add_zero _).symm
theorem move_asc {l : List Q} (h : Asc l) (k : Int) : Asc (l.map (Q.move k)) := map_asc (c := k) h (fun q _ => rfl) fun q _ => rfl
theorem mul_cost (l : List Q) (k x : Int) : costQ (l.map (Q.mul k)) x = (costQ l x).map (· * k) := by
  induction l with
  | nil => rfl
  | cons q r ih =>
    rw [List.map_cons, costQ, costQ, ih, mul_at]
    show (if q.lo ≤ x ∧ x ≤ q.hi then _ else _) = _
    split <;> rfl
theorem rise_cost (l : List Q) (p x : Int) : costQ (l.map (Q.rise p)) x = (costQ l x).map (· + p) := by
  induction l with
  | nil => rfl
  | cons q r ih =>
    rw [List.map_cons, costQ, costQ, ih, rise_at]
    show (if q.lo ≤ x ∧ x ≤ q.hi then _ else _) = _
    split <;> rfl
theorem move_cost (l : List Q) (c x : Int) : costQ (l.map (Q.move c)) x = costQ l (x - c) := by
  induction l with
  | nil => rfl
  | cons q r ih =>
    rw [List.map_cons, costQ, costQ, ih, move_at]
    show (if q.lo + c ≤ x ∧ x ≤ q.hi + c then _ else _) = _
    by_cases h : q.lo ≤ x - c ∧ x - c ≤ q.hi
    · rw [if_pos h, if_pos (by omega)]
    · rw [if_neg h, if_neg (by omega)]
theorem mul_bd {N : Nat} {l : List Q} (h : Bd N l) (k : Int) : Bd (N * k.natAbs + N) (l.map (Q.mul k)) := fun p hp => by
  obtain ⟨q, hq, rfl⟩ := List.mem_map.mp hp
  have b := h q hq
  have m : ∀ a : Int, a.natAbs ≤ N → (a * k).natAbs ≤ N * k.natAbs := fun a ha => by rw [Int.natAbs_mul]; exact Nat.mul_le_mul_right _ ha
  refine ⟨Nat.le_trans b.lo (Nat.le_add_left _ _), Nat.le_trans b.hi (Nat.le_add_left _ _), Nat.le_trans (m _ b.pr) (Nat.le_add_right _ _), Nat.le_trans (m _ b.st) (Nat.le_add_right _ _), ?_⟩
  rw [mul_at]; exact Nat.le_trans (m _ b.en) (Nat.le_add_right _ _)
theorem rise_bd {N : Nat} {l : List Q} (h : Bd N l) (k : Int) : Bd (N + k.natAbs) (l.map (Q.rise k)) := fun p hp => by
  obtain ⟨q, hq, rfl⟩ := List.mem_map.mp hp
  have b := h q hq
  have z1 := b.lo; have z2 := b.hi; have z3 := b.pr; have z4 := b.st; have z5 := b.en
  refine ⟨?_, ?_, ?_, ?_, ?_⟩
  · show q.lo.natAbs ≤ _; omega
  · show q.hi.natAbs ≤ _; omega
  · show (q.pr + k).natAbs ≤ _; omega
  · show q.st.natAbs ≤ _; omega
  · rw [rise_at]; show (q.at q.hi + k).natAbs ≤ _; omega
theorem move_bd {N : Nat} {l : List Q} (h : Bd N l) (k : Int) : Bd (N + k.natAbs) (l.map (Q.move k)) := fun p hp => by
  obtain ⟨q, hq, rfl⟩ := List.mem_map.mp hp
  have b := h q hq
  have z1 := b.lo; have z2 := b.hi; have z3 := b.pr; have z4 := b.st; have z5 := b.en
  refine ⟨?_, ?_, ?_, ?_, ?_⟩
  · show (q.lo + k).natAbs ≤ _; omega
  · show (q.hi + k).natAbs ≤ _; omega
  · show q.pr.natAbs ≤ _; omega
  · show q.st.natAbs ≤ _; omega
  · rw [move_at]; show (q.at (q.hi + k - k)).natAbs ≤ _; rw [Int.add_sub_cancel]; omega
/-! ### plus -/
def sumQ (a b : Q) : List Q := if min b.hi a.hi < max b.lo a.lo then [] else [⟨max b.lo a.lo, min b.hi a.hi, a.at (max b.lo a.lo) + b.at (max b.lo a.lo), a.st + b.st⟩]
def plusR : List Q → List Q → List Q
  | [], _ => []
  | _ :: _, [] => []
  | a :: r, b :: t => sumQ a b ++ (if a.hi < b.hi then plusR r (b :: t) else plusR (a :: r) t)
termination_by a b => a.length + b.length
def plusO (a b : Option Int) : Option Int := match a, b with
  | some x, some y => some (x + y)
  | _, _ => none
theorem plusO_none (a : Option Int) : plusO a none = none := by cases a <;> rfl
theorem sum_cost (a b : Q) (x : Int) : costQ (sumQ a b) x = plusO (costQ [a] x) (costQ [b] x) := by
  have e : ∀ f, (Q.at ⟨f, min b.hi a.hi, a.at f + b.at f, a.st + b.st⟩ x) = a.at x + b.at x := fun f => by
    rw [Q.at_sub a x f, Q.at_sub b x f]
    unfold Q.at
    simp only
    rw [Int.add_mul]; omega
  unfold sumQ
  simp only [costQ]
  by_cases h : min b.hi a.hi < max b.lo a.lo
  · rw [if_pos h]
    simp only [costQ]
    by_cases h1 : a.lo ≤ x ∧ x ≤ a.hi
    · rw [if_neg (show ¬ (b.lo ≤ x ∧ x ≤ b.hi) by omega), plusO_none]
    · rw [if_neg h1]; rfl
  · rw [if_neg h, costQ, e]
    simp only [costQ]
    by_cases h1 : a.lo ≤ x ∧ x ≤ a.hi
    · by_cases h2 : b.lo ≤ x ∧ x ≤ b.hi
      · rw [if_pos h1, if_pos h2, if_pos (by omega)]; rfl
      · rw [if_neg h2, if_neg (by omega), plusO_none]
    · rw [if_neg h1, if_neg (by omega)]; rfl
theorem sum_in {a b p : Q} (h : p ∈ sumQ a b) : p.lo ≤ p.hi ∧ a.lo ≤ p.lo ∧ p.hi ≤ a.hi ∧ b.lo ≤ p.lo ∧ p.hi ≤ b.hi := by
  unfold sumQ at h
  split at h
  · cases h
  · rw [List.mem_singleton.mp h]; simp only; omega
theorem sum_asc (a b : Q) : Asc (sumQ a b) := by
  unfold sumQ
  split
  · exact .nil
  · exact .one (by simp only; omega)
theorem sum_bd {N M : Nat} {a b : Q} (ha : a.bd N) (hb : b.bd M) : Bd (N + M) (sumQ a b) := by
  unfold sumQ
  split
  · exact Bd.nil
  · rename_i h
    have z1 := ha.at (x := max b.lo a.lo) (by omega) (by omega)
    have z2 := hb.at (x := max b.lo a.lo) (by omega) (by omega)
    have z3 := ha.at (x := min b.hi a.hi) (by omega) (by omega)
    have z4 := hb.at (x := min b.hi a.hi) (by omega) (by omega)
    have y1 := ha.lo; have y2 := ha.hi; have y3 := ha.st; have y4 := hb.lo; have y5 := hb.hi; have y6 := hb.st
    refine bd_cons.mpr ⟨⟨?_, ?_, ?_, ?_, ?_⟩, Bd.nil⟩
    · show (max b.lo a.lo).natAbs ≤ _; clear z1 z2 z3 z4 y2 y3 y5 y6; omega
    · show (min b.hi a.hi).natAbs ≤ _; clear z1 z2 z3 z4 y1 y3 y4 y6; omega
    · exact nadd z1 z2
    · exact nadd y3 y6
    · have e : (Q.at ⟨max b.lo a.lo, min b.hi a.hi, a.at (max b.lo a.lo) + b.at (max b.lo a.lo), a.st + b.st⟩ (min b.hi a.hi)) = a.at (min b.hi a.hi) + b.at (min b.hi a.hi) := by
        rw [Q.at_sub a (min b.hi a.hi) (max b.lo a.lo), Q.at_sub b (min b.hi a.hi) (max b.lo a.lo)]
        unfold Q.at
        simp only
        rw [Int.add_mul]; omega
      simp only
      rw [e]; exact nadd z3 z4
theorem plus_cost : ∀ {a b : List Q} (x : Int), Asc a → Asc b → costQ (plusR a b) x = plusO (costQ a x) (costQ b x)
  | [], b, x, _, _ => by rw [plusR]; rfl
  | a :: r, [], x, _, _ => by rw [plusR]; exact (plusO_none _).symm
  | a :: r, b :: t, x, ha, hb => by
    have wa := ha.w a (.head _); have wb := hb.w b (.head _)
    rw [plusR, costQ_app, sum_cost]
    have cut : ∀ (q : Q) (l : List Q), costQ (q :: l) x = (costQ [q] x).or (costQ l x) := fun q l => costQ_app [q] l x
    by_cases h : a.hi < b.hi
    · rw [if_pos h, plus_cost x ha.tail hb]
      by_cases hx : x ≤ a.hi
      · rw [ha.tail_le hx, cut a r, ha.tail_le hx, cut b t, hb.tail_le (by omega), Option.or_none, Option.or_none]
        show (plusO _ _).or none = _
        rw [Option.or_none]
      · have e1 : costQ [a] x = none := costQ_none fun q hq => by rw [List.mem_singleton.mp hq]; omega
        rw [e1, cut a r, e1]; rfl
    · rw [if_neg h, plus_cost x ha hb.tail]
      by_cases hx : x ≤ b.hi
      · rw [hb.tail_le hx, plusO_none, cut b t, hb.tail_le hx, cut a r, ha.tail_le (by omega), Option.or_none, Option.or_none, Option.or_none]
      · have e1 : costQ [b] x = none := costQ_none fun q hq => by rw [List.mem_singleton.mp hq]; omega
        rw [e1, plusO_none, cut b t, e1]; rfl
termination_by a b => a.length + b.length
theorem plus_in : ∀ {a b : List Q} {p : Q}, p ∈ plusR a b → ∃ q ∈ a, ∃ s ∈ b, p.lo ≤ p.hi ∧ q.lo ≤ p.lo ∧ p.hi ≤ q.hi ∧ s.lo ≤ p.lo ∧ p.hi ≤ s.hi
  | [], b, p, h => by rw [plusR] at h; cases h
  | a :: r, [], p, h => by rw [plusR] at h; cases h
  | a :: r, b :: t, p, h => by
    rw [plusR] at h
    rcases List.mem_append.mp h with h | h
    · exact ⟨a, .head _, b, .head _, sum_in h⟩
    · split at h
      · obtain ⟨q, h1, s, h2, h3⟩ := plus_in h
        exact ⟨q, .tail _ h1, s, h2, h3⟩
      · obtain ⟨q, h1, s, h2, h3⟩ := plus_in h
        exact ⟨q, h1, s, .tail _ h2, h3⟩
termination_by a b => a.length + b.length
theorem plus_asc : ∀ {a b : List Q}, Asc a → Asc b → Asc (plusR a b)
  | [], b, _, _ => by rw [plusR]; exact .nil
  | a :: r, [], _, _ => by rw [plusR]; exact .nil
  | a :: r, b :: t, ha, hb => by
    obtain ⟨a1, a2, a3⟩ := asc_cons.mp ha
    obtain ⟨b1, b2, b3⟩ := asc_cons.mp hb
    rw [plusR]
    refine asc_app.mpr ⟨sum_asc a b, ?_, fun p hp s hs => ?_⟩
    · split
      · exact plus_asc a3 hb
      · exact plus_asc ha b3
    · have k := sum_in hp
      split at hs
      · obtain ⟨q, h1, _, _, h3⟩ := plus_in hs
        have := a2 q h1; omega
      · obtain ⟨_, _, q, h1, h3⟩ := plus_in hs
        have := b2 q h1; omega
termination_by a b => a.length + b.length
theorem plus_bd : ∀ {N M : Nat} {a b : List Q}, Bd N a → Bd M b → Bd (N + M) (plusR a b)
  | N, M, [], b, _, _ => by rw [plusR]; exact Bd.nil
  | N, M, a :: r, [], _, _ => by rw [plusR]; exact Bd.nil
  | N, M, a :: r, b :: t, ha, hb => by
    rw [plusR]
    refine bd_app.mpr ⟨sum_bd (bd_cons.mp ha).1 (bd_cons.mp hb).1, ?_⟩
    split
    · exact plus_bd (bd_cons.mp ha).2 hb
    · exact plus_bd ha (bd_cons.mp hb).2
termination_by _ _ a b => a.length + b.length
theorem plus_len : ∀ (a b : List Q), (plusR a b).length ≤ a.length + b.length
  | [], b => by rw [plusR]; simp
  | a :: r, [] => by rw [plusR]; simp
  | a :: r, b :: t => by
    rw [plusR, List.length_append]
    have h1 : (sumQ a b).length ≤ 1 := by unfold sumQ; split <;> simp
    have h2 : (if a.hi < b.hi then plusR r (b :: t) else plusR (a :: r) t).length ≤ r.length + t.length + 1 := by
      split
      · have := plus_len r (b :: t); simp at this; omega
      · have := plus_len (a :: r) t; simp at this; omega
    simp; omega
termination_by a b => a.length + b.length
/-! ### freed -/
def freedR (l : List Q) (n : Int) : List Q := (match costQ l 0 with | some p => [⟨0, n, p, 0⟩] | none => []) ++ l.flatMap fun q => (clipQ q 1 q.hi).map (Q.move n)
theorem freed_cost {l : List Q} {n : Int} (hn : 0 ≤ n) (x : Int) : costQ (freedR l n) x = if x < 0 then none else costQ l (max 0 (x - n)) := by
  have e1 : costQ (l.flatMap fun q => (clipQ q 1 q.hi).map (Q.move n)) x = if 1 ≤ x - n then costQ l (x - n) else none := by
    induction l with
    | nil => split <;> rfl
    | cons q r ih =>
      rw [List.flatMap_cons, costQ_app, ih, move_cost, clip_cost]
      simp only [costQ]
      by_cases h : 1 ≤ x - n
      · rw [if_pos h, if_pos h]
        by_cases h2 : q.lo ≤ x - n ∧ x - n ≤ q.hi
        · rw [if_pos h2, if_pos (by omega), if_pos h2]; rfl
        · rw [if_neg h2, if_neg h2]
          split <;> simp
      · rw [if_neg h, if_neg h, if_neg (by omega)]; rfl
  unfold freedR
  rw [costQ_app, e1]
  have e2 : costQ (match costQ l 0 with | some p => [⟨0, n, p, 0⟩] | none => []) x = if 0 ≤ x ∧ x ≤ n then costQ l 0 else none := by
    cases costQ l 0 with
    | none => simp [costQ]
    | some p =>
      simp only [costQ]
      split
      · unfold Q.at; simp
      · rfl
  rw [e2]
  by_cases h : x < 0
  · rw [if_pos h, if_neg (by omega), if_neg (by omega)]; rfl
  · rw [if_neg h]
    by_cases h2 : x ≤ n
    · rw [if_pos (by omega), if_neg (by omega), Option.or_none]
      congr 1; omega
    · rw [if_neg (by omega), if_pos (by omega), Option.none_or]
      congr 1; omega
theorem freed_asc {l : List Q} {n : Int} (hn : 0 ≤ n) (h : Asc l) : Asc (freedR l n) := by
  have e1 : Asc (l.flatMap fun q => (clipQ q 1 q.hi).map (Q.move n)) := by
    have : (l.flatMap fun q => (clipQ q 1 q.hi).map (Q.move n)) = (l.flatMap fun q => clipQ q 1 q.hi).map (Q.move n) := by rw [List.map_flatMap]
    rw [this]
    exact move_asc (flat_asc h (fun q _ => clip_asc _ _ _) fun q _ p hp => ⟨(clip_in hp).2.2.2.1, (clip_in hp).2.2.2.2⟩) n
  unfold freedR
  refine asc_app.mpr ⟨?_, e1, fun a ha b hb => ?_⟩
  · split
    · exact .one hn
    · exact .nil
  · obtain ⟨q, hq, hb⟩ := List.mem_flatMap.mp hb
    obtain ⟨p, hp, rfl⟩ := List.mem_map.mp hb
    have k := clip_in hp
    split at ha
    · rw [List.mem_singleton.mp ha]
      show n < p.lo + n
      omega
    · cases ha
theorem freed_bd {N : Nat} {l : List Q} {n : Int} (h : Bd N l) : Bd (N + n.natAbs) (freedR l n) := by
  unfold freedR
  refine bd_app.mpr ⟨?_, flat_bd fun q hq => move_bd (clip_bd (h q hq) _ _) n⟩
  cases e : costQ l 0 with
  | none => exact Bd.nil
  | some p =>
    have z := h.cost e
    refine bd_cons.mpr ⟨⟨?_, ?_, ?_, ?_, ?_⟩, Bd.nil⟩
    · show (0 : Int).natAbs ≤ _; omega
    · show n.natAbs ≤ _; omega
    · show p.natAbs ≤ _; omega
    · show (0 : Int).natAbs ≤ _; omega
    · show (p + 0 * (n - 0)).natAbs ≤ _; rw [Int.zero_mul]; omega
theorem freed_len (l : List Q) (n : Int) : (freedR l n).length ≤ l.length + 1 := by
  unfold freedR
  rw [List.length_append]
  have h1 := flat_len (f := fun q => (clipQ q 1 q.hi).map (Q.move n)) (l := l) (n := 1) fun q _ => by rw [List.length_map]; exact clip_len _ _ _
  have h2 : (match costQ l 0 with | some p => [(⟨0, n, p, 0⟩ : Q)] | none => []).length ≤ 1 := by split <;> simp
  omega
/-! ### from a list of costs -/
def costsR (first : Int) : List (Option Int) → List Q
  | [] => []
  | none :: r => costsR (first + 1) r
  | some c :: r => ⟨first, first, c, 0⟩ :: costsR (first + 1) r
theorem costs_in : ∀ {cs : List (Option Int)} {first : Int} {q : Q}, q ∈ costsR first cs → first ≤ q.lo ∧ q.lo = q.hi ∧ q.st = 0
  | none :: r, first, q, h => by have := costs_in (cs := r) (first := first + 1) h; omega
  | some c :: r, first, q, h => by
    rw [costsR] at h
    rcases List.mem_cons.mp h with e | e
    · subst e; simp
    · have := costs_in (cs := r) (first := first + 1) e; omega
theorem costs_asc : ∀ (cs : List (Option Int)) (first : Int), Asc (costsR first cs)
  | [], _ => .nil
  | none :: r, first => costs_asc r (first + 1)
  | some c :: r, first => by
    rw [costsR]
    exact asc_cons.mpr ⟨Int.le_refl _, fun b hb => by have := (costs_in hb).1; show first < b.lo; omega, costs_asc r (first + 1)⟩
theorem costs_cost : ∀ (cs : List (Option Int)) (first x : Int), costQ (costsR first cs) x = if first ≤ x then (cs[(x - first).toNat]?).getD none else none
  | [], first, x => by rw [costsR]; simp [costQ]
  | c :: r, first, x => by
    have ih := costs_cost r (first + 1) x
    have e : costQ (costsR first (c :: r)) x = if x = first then c else costQ (costsR (first + 1) r) x := by
      cases c with
      | none =>
        rw [costsR]
        split
        · rename_i h; rw [ih, if_neg (by omega)]
        · rfl
      | some c =>
        rw [costsR, costQ]
        by_cases h : x = first
        · subst h; simp [Q.at]
        · rw [if_neg h, if_neg (by simp only; omega)]
    rw [e, ih]
    by_cases h : x = first
    · subst h; simp
    · rw [if_neg h]
      by_cases h2 : first ≤ x
      · rw [if_pos h2, if_pos (by omega)]
        have : (x - first).toNat = (x - (first + 1)).toNat + 1 := by omega
        rw [this, List.getElem?_cons_succ]
      · rw [if_neg h2, if_neg (by omega)]
theorem costs_bd : ∀ {cs : List (Option Int)} {first : Int} {N M : Nat}, (∀ c ∈ cs, ∀ z, c = some z → z.natAbs ≤ N) → first.natAbs + cs.length ≤ M → Bd (N + M) (costsR first cs)
  | [], _, _, _, _, _ => Bd.nil
  | none :: r, first, N, M, h, k => by
    rw [costsR]
    exact costs_bd (fun c hc => h c (.tail _ hc)) (by simp at k; omega)
  | some c :: r, first, N, M, h, k => by
    rw [costsR]
    simp at k
    have z := h (some c) (.head _) c rfl
    refine bd_cons.mpr ⟨⟨?_, ?_, ?_, ?_, ?_⟩, costs_bd (fun c hc => h c (.tail _ hc)) (by omega)⟩
    · show first.natAbs ≤ _; omega
    · show first.natAbs ≤ _; omega
    · show c.natAbs ≤ _; omega
    · show (0 : Int).natAbs ≤ _; omega
    · show (c + 0 * (first - first)).natAbs ≤ _; rw [Int.zero_mul]; omega
theorem costs_len : ∀ (cs : List (Option Int)) (first : Int), (costsR first cs).length ≤ cs.length
  | [], _ => Nat.le_refl _
  | none :: r, first => by have := costs_len r (first + 1); rw [costsR]; simp; omega
  | some c :: r, first => by have := costs_len r (first + 1); rw [costsR]; simp; omega
theorem costs_cnt : ∀ (cs : List (Option Int)) (first : Int), cntQ (costsR first cs) = (cs.filter Option.isSome).length
  | [], _ => rfl
  | none :: r, first => by rw [costsR, costs_cnt r]; rfl
  | some c :: r, first => by rw [costsR, cntQ, costs_cnt r]; simp; omega
end Den
namespace Den
open PySem PySem.Spec PyProof.Rows L2
variable {fn : Nat → List D → R D}
def b_clipped : Cmds := (.cons (.set 3 (.bi .max2 (.cons (.var 1) (.cons (.ix (.var 0) (.cst (.int 0))) .nil)))) (.cons (.set 4 (.bi .min2 (.cons (.var 2) (.cons (.ix (.var 0) (.cst (.int 1))) .nil)))) (.cons (.if_ (.cmp .gt (.var 3) (.var 4)) (.cons (.ret (.lst .nil)) .nil) .nil) (.cons (.ret (.lst (.cons (.tup (.cons (.var 3) (.cons (.var 4) (.cons (.call 7 (.cons (.tup (.cons (.ix (.var 0) (.cst (.int 2))) (.cons (.ix (.var 0) (.cst (.int 3))) .nil))) (.cons (.ix (.var 0) (.cst (.int 0))) (.cons (.var 3) .nil)))) (.cons (.ix (.var 0) (.cst (.int 3))) .nil))))) .nil))) .nil))))
abbrev r_clipped (fn : Nat → List D → R D) : List D → R D := runF fn fuel 5 true b_clipped
theorem r_clipped_eq (fn zs) : r_clipped fn zs = outO true (evCs fn fuel b_clipped (initE 5 zs)) := runF_eq _ _ _ _ _ _
theorem r_clipped_at (fn : Nat → List D → R D) (z0 z1 z2 : D) : r_clipped fn [z0, z1, z2] = outO true (evCs fn fuel b_clipped [some z0, some z1, some z2, none, none]) := r_clipped_eq fn _
def w_plus_0 : Cmds := (.cons (.set 6 (.ix (.call 74 (.cons (.ix (.var 1) (.var 4)) (.cons (.ix (.var 5) (.cst (.int 0))) (.cons (.ix (.var 5) (.cst (.int 1))) .nil)))) (.cst (.int 0)))) (.cons (.app 2 (.tup (.cons (.ix (.var 5) (.cst (.int 0))) (.cons (.ix (.var 5) (.cst (.int 1))) (.cons (.bin .add (.ix (.var 5) (.cst (.int 2))) (.ix (.var 6) (.cst (.int 2)))) (.cons (.bin .add (.ix (.var 5) (.cst (.int 3))) (.ix (.var 6) (.cst (.int 3)))) .nil)))))) (.cons (.kill [5, 6]) .nil)))
def x_plus_0 : Ex := (.and_ (.cmp .lt (.var 3) (.bi .len (.cons (.var 0) .nil))) (.cmp .lt (.var 4) (.bi .len (.cons (.var 1) .nil))))
def w_plus_1 : Cmds := (.cons (.kill [5, 6]) (.cons (.for_ (.seq (.call 74 (.cons (.ix (.var 0) (.var 3)) (.cons (.ix (.ix (.var 1) (.var 4)) (.cst (.int 0))) (.cons (.ix (.ix (.var 1) (.var 4)) (.cst (.int 1))) .nil))))) (.one 5) w_plus_0) (.cons (.if_ (.cmp .lt (.ix (.ix (.var 0) (.var 3)) (.cst (.int 1))) (.ix (.ix (.var 1) (.var 4)) (.cst (.int 1)))) (.cons (.aug 3 false (.cst (.int 1))) .nil) (.cons (.aug 4 false (.cst (.int 1))) .nil)) .nil)))
def b_plus : Cmds := (.cons (.own 2 (.lst .nil)) (.cons (.set 3 (.cst (.int 0))) (.cons (.set 4 (.cst (.int 0))) (.cons (.while_ x_plus_0 w_plus_1) (.shr 2 (.cons (.ret (.call 42 (.cons (.var 2) .nil))) .nil))))))
abbrev r_plus (fn : Nat → List D → R D) : List D → R D := runF fn fuel 7 false b_plus
theorem r_plus_eq (fn zs) : r_plus fn zs = outO false (evCs fn fuel b_plus (initE 7 zs)) := runF_eq _ _ _ _ _ _
theorem r_plus_at (fn : Nat → List D → R D) (z0 z1 : D) : r_plus fn [z0, z1] = outO false (evCs fn fuel b_plus [some z0, some z1, none, none, none, none, none]) := r_plus_eq fn _
def x_times_0 : Ex := (.tup (.cons (.ix (.var 2) (.cst (.int 0))) (.cons (.ix (.var 2) (.cst (.int 1))) (.cons (.bin .mul (.ix (.var 2) (.cst (.int 2))) (.var 1)) (.cons (.bin .mul (.ix (.var 2) (.cst (.int 3))) (.var 1)) .nil)))))
def b_times : Cmds := (.cons (.ret (.call 42 (.cons (.comp (.seq (.var 0)) (.one 2) [2] x_times_0) .nil))) .nil)
abbrev r_times (fn : Nat → List D → R D) : List D → R D := runF fn fuel 3 false b_times
theorem r_times_eq (fn zs) : r_times fn zs = outO false (evCs fn fuel b_times (initE 3 zs)) := runF_eq _ _ _ _ _ _
theorem r_times_at (fn : Nat → List D → R D) (z0 z1 : D) : r_times fn [z0, z1] = outO false (evCs fn fuel b_times [some z0, some z1, none]) := r_times_eq fn _
def x_raised_0 : Ex := (.tup (.cons (.ix (.var 2) (.cst (.int 0))) (.cons (.ix (.var 2) (.cst (.int 1))) (.cons (.bin .add (.ix (.var 2) (.cst (.int 2))) (.var 1)) (.cons (.ix (.var 2) (.cst (.int 3))) .nil)))))
def b_raised : Cmds := (.cons (.ret (.call 42 (.cons (.comp (.seq (.var 0)) (.one 2) [2] x_raised_0) .nil))) .nil)
abbrev r_raised (fn : Nat → List D → R D) : List D → R D := runF fn fuel 3 false b_raised
theorem r_raised_eq (fn zs) : r_raised fn zs = outO false (evCs fn fuel b_raised (initE 3 zs)) := runF_eq _ _ _ _ _ _
theorem r_raised_at (fn : Nat → List D → R D) (z0 z1 : D) : r_raised fn [z0, z1] = outO false (evCs fn fuel b_raised [some z0, some z1, none]) := r_raised_eq fn _
def x_moved_0 : Ex := (.tup (.cons (.bin .add (.ix (.var 2) (.cst (.int 0))) (.var 1)) (.cons (.bin .add (.ix (.var 2) (.cst (.int 1))) (.var 1)) (.cons (.ix (.var 2) (.cst (.int 2))) (.cons (.ix (.var 2) (.cst (.int 3))) .nil)))))
def b_moved : Cmds := (.cons (.ret (.call 42 (.cons (.comp (.seq (.var 0)) (.one 2) [2] x_moved_0) .nil))) .nil)
abbrev r_moved (fn : Nat → List D → R D) : List D → R D := runF fn fuel 3 false b_moved
theorem r_moved_eq (fn zs) : r_moved fn zs = outO false (evCs fn fuel b_moved (initE 3 zs)) := runF_eq _ _ _ _ _ _
theorem r_moved_at (fn : Nat → List D → R D) (z0 z1 : D) : r_moved fn [z0, z1] = outO false (evCs fn fuel b_moved [some z0, some z1, none]) := r_moved_eq fn _
def w_within_0 : Cmds := (.cons (.ext 3 (.call 74 (.cons (.var 4) (.cons (.var 1) (.cons (.var 2) .nil))))) (.cons (.kill [4]) .nil))
def b_within : Cmds := (.cons (.own 3 (.lst .nil)) (.cons (.for_ (.seq (.var 0)) (.one 4) w_within_0) (.shr 3 (.cons (.ret (.call 42 (.cons (.var 3) .nil))) .nil))))
abbrev r_within (fn : Nat → List D → R D) : List D → R D := runF fn fuel 5 false b_within
theorem r_within_eq (fn zs) : r_within fn zs = outO false (evCs fn fuel b_within (initE 5 zs)) := runF_eq _ _ _ _ _ _
theorem r_within_at (fn : Nat → List D → R D) (z0 z1 z2 : D) : r_within fn [z0, z1, z2] = outO false (evCs fn fuel b_within [some z0, some z1, some z2, none, none]) := r_within_eq fn _
def w_without_0 : Cmds := (.cons (.ext 3 (.call 74 (.cons (.var 4) (.cons (.ix (.var 4) (.cst (.int 0))) (.cons (.bin .sub (.var 1) (.cst (.int 1))) .nil))))) (.cons (.ext 3 (.call 74 (.cons (.var 4) (.cons (.bin .add (.var 2) (.cst (.int 1))) (.cons (.ix (.var 4) (.cst (.int 1))) .nil))))) (.cons (.kill [4]) .nil)))
def b_without : Cmds := (.cons (.if_ (.cmp .gt (.var 1) (.var 2)) (.cons (.ret (.call 42 (.cons (.bi .list (.cons (.var 0) .nil)) .nil))) .nil) .nil) (.cons (.own 3 (.lst .nil)) (.cons (.for_ (.seq (.var 0)) (.one 4) w_without_0) (.shr 3 (.cons (.ret (.call 42 (.cons (.var 3) .nil))) .nil)))))
abbrev r_without (fn : Nat → List D → R D) : List D → R D := runF fn fuel 5 false b_without
theorem r_without_eq (fn zs) : r_without fn zs = outO false (evCs fn fuel b_without (initE 5 zs)) := runF_eq _ _ _ _ _ _
theorem r_without_at (fn : Nat → List D → R D) (z0 z1 z2 : D) : r_without fn [z0, z1, z2] = outO false (evCs fn fuel b_without [some z0, some z1, some z2, none, none]) := r_without_eq fn _
def w_freed_0 : Cmds := (.cons (.app 2 (.tup (.cons (.bin .add (.var 5) (.var 1)) (.cons (.bin .add (.var 6) (.var 1)) (.cons (.var 7) (.cons (.var 8) .nil)))))) (.cons (.kill [5, 6, 7, 8]) .nil))
def w_freed_1 : Cmds := (.cons (.kill [5, 6, 7, 8]) (.cons (.for_ (.seq (.call 74 (.cons (.var 4) (.cons (.cst (.int 1)) (.cons (.ix (.var 4) (.cst (.int 1))) .nil))))) (.many [5, 6, 7, 8]) w_freed_0) (.cons (.kill [4]) .nil)))
def b_freed : Cmds := (.cons (.own 2 (.lst .nil)) (.cons (.set 3 (.call 49 (.cons (.var 0) (.cons (.cst (.int 0)) .nil)))) (.cons (.if_ (.notN (.var 3)) (.cons (.app 2 (.tup (.cons (.cst (.int 0)) (.cons (.var 1) (.cons (.var 3) (.cons (.cst (.int 0)) .nil)))))) .nil) .nil) (.cons (.for_ (.seq (.var 0)) (.one 4) w_freed_1) (.shr 2 (.cons (.ret (.call 42 (.cons (.var 2) .nil))) .nil))))))
abbrev r_freed (fn : Nat → List D → R D) : List D → R D := runF fn fuel 9 false b_freed
theorem r_freed_eq (fn zs) : r_freed fn zs = outO false (evCs fn fuel b_freed (initE 9 zs)) := runF_eq _ _ _ _ _ _
theorem r_freed_at (fn : Nat → List D → R D) (z0 z1 : D) : r_freed fn [z0, z1] = outO false (evCs fn fuel b_freed [some z0, some z1, none, none, none, none, none, none, none]) := r_freed_eq fn _
def w_from_costs_0 : Cmds := (.cons (.if_ (.notN (.var 4)) (.cons (.app 2 (.tup (.cons (.bin .add (.var 0) (.var 3)) (.cons (.bin .add (.var 0) (.var 3)) (.cons (.var 4) (.cons (.cst (.int 0)) .nil)))))) .nil) .nil) (.cons (.kill [3, 4]) .nil))
def b_from_costs : Cmds := (.cons (.own 2 (.lst .nil)) (.cons (.for_ (.enum (.var 1)) (.many [3, 4]) w_from_costs_0) (.shr 2 (.cons (.ret (.call 42 (.cons (.var 2) .nil))) .nil))))
abbrev r_from_costs (fn : Nat → List D → R D) : List D → R D := runF fn fuel 5 false b_from_costs
theorem r_from_costs_eq (fn zs) : r_from_costs fn zs = outO false (evCs fn fuel b_from_costs (initE 5 zs)) := runF_eq _ _ _ _ _ _
theorem r_from_costs_at (fn : Nat → List D → R D) (z0 z1 : D) : r_from_costs fn [z0, z1] = outO false (evCs fn fuel b_from_costs [some z0, some z1, none, none, none]) := r_from_costs_eq fn _
theorem line_q {f : List D → R D} (h : S_line_at f) (q : Q) (x : Int) (m : mulOk q.st (x - q.lo) = true) : f [.tup [.int q.pr, .int q.st], .int q.lo, .int x] = .ok (.int (q.at x)) := h _ _ _ _ m
def S_clipped (f : List D → R D) : Prop := ∀ (q : Q) (lo hi : Int) (N : Nat), q.bd N → N ≤ Hg → f [q.d, .int lo, .int hi] = .ok (.lst ((clipQ q lo hi).map Q.d))
theorem clipped_sp (h_line_at : S_line_at (fn 7)) : S_clipped (r_clipped fn) := fun q lo hi N hb hN => by
  by_cases h : min hi q.hi < max lo q.lo
  · have e : clipQ q lo hi = [] := by unfold clipQ; rw [if_pos h]
    rw [e]
    simp [r_clipped_eq, b_clipped, initE, h]
  · have e : clipQ q lo hi = [⟨max lo q.lo, min hi q.hi, q.at (max lo q.lo), q.st⟩] := by unfold clipQ; rw [if_neg h]
    have z1 := hb.st; have z2 := hb.lo; have z3 := hb.hi
    have l := line_q h_line_at q (max lo q.lo) (mulH (by omega) (by omega))
    rw [e]
    simp [r_clipped_eq, b_clipped, initE, h, l, tup_q]
def S_within (f : List D → R D) : Prop := ∀ (l : List Q) (lo hi : Int) (N : Nat), Asc l → Bd N l → N ≤ Hg → l.length ≤ 10000 → f [fD l, .int lo, .int hi] = .ok (fD (laidQ (withinR l lo hi)))
theorem within_sp (h_laid : S_laid (fn 42)) (h_clipped : S_clipped (fn 74)) : S_within (r_within fn) := fun l lo hi N ha hb hN hl => by
  rw [r_within_eq]
  have loop : ∀ (r rows : List Q), Bd N r → rows.length + r.length ≤ 10000 → forL (fun ρ x => thenO (bindT ρ (.one 4) x) ρ fun ρ' => evCs fn fuel w_within_0 ρ') (r.map Q.d) [some (fD l), some (.int lo), some (.int hi), some (.lst (rows.map Q.d)), none] = .nx [some (fD l), some (.int lo), some (.int hi), some (.lst ((rows ++ withinR r lo hi).map Q.d)), none] := by
    intro r
    induction r with
    | nil => intro rows _ _; simp [withinR]
    | cons q r ih =>
      intro rows hr hk
      simp only [List.length_cons] at hk
      have c := h_clipped q lo hi N (bd_cons.mp hr).1 hN
      have cl := clip_len q lo hi
      rw [List.map_cons, forL_nx (ρ' := [some (fD l), some (.int lo), some (.int hi), some (.lst ((rows ++ clipQ q lo hi).map Q.d)), none]), ih (rows ++ clipQ q lo hi) (bd_cons.mp hr).2 (by simp; omega)]
      · simp [withinR]
      · have h2 : rows.length + (clipQ q lo hi).length ≤ 16777216 := by omega
        simp [w_within_0, c, h2]
  have k := loop l [] hb (by simpa using hl)
  have z := h_laid (.lst ((withinR l lo hi).map Q.d)) (withinR l lo hi) N rfl (within_asc ha lo hi) (within_bd hb lo hi) hN (by have := within_len l lo hi; omega)
  refine out_of (go_own (z := .lst []) rfl (go_for (xs := l.map Q.d) rfl k ?_))
  simp [evCs_shr, z]
def S_without (f : List D → R D) : Prop := ∀ (l : List Q) (lo hi : Int) (N : Nat), Asc l → Bd N l → N ≤ Hg → l.length ≤ 10000 → f [fD l, .int lo, .int hi] = .ok (fD (laidQ (withoutR l lo hi)))
theorem without_sp (h_laid : S_laid (fn 42)) (h_clipped : S_clipped (fn 74)) : S_without (r_without fn) := fun l lo hi N ha hb hN hl => by
  rw [r_without_eq]
  have z := h_laid (.lst ((withoutR l lo hi).map Q.d)) (withoutR l lo hi) N rfl (without_asc ha lo hi) (without_bd hb lo hi) hN (by have := without_len l lo hi; omega)
  by_cases h : hi < lo
  · have e : withoutR l lo hi = l := by unfold withoutR; rw [if_pos h]
    rw [e] at z ⊢
    simp [b_without, initE, h, z]
  have er : withoutR l lo hi = l.flatMap fun q => clipQ q q.lo (lo - 1) ++ clipQ q (hi + 1) q.hi := by unfold withoutR; rw [if_neg h]
  have loop : ∀ (r rows : List Q), Bd N r → rows.length + 2 * r.length ≤ 20000 → forL (fun ρ x => thenO (bindT ρ (.one 4) x) ρ fun ρ' => evCs fn fuel w_without_0 ρ') (r.map Q.d) [some (fD l), some (.int lo), some (.int hi), some (.lst (rows.map Q.d)), none] = .nx [some (fD l), some (.int lo), some (.int hi), some (.lst ((rows ++ r.flatMap fun q => clipQ q q.lo (lo - 1) ++ clipQ q (hi + 1) q.hi).map Q.d)), none] := by
    intro r
    induction r with
    | nil => intro rows _ _; simp
    | cons q r ih =>
      intro rows hr hk
      simp only [List.length_cons] at hk
      have c1 := h_clipped q q.lo (lo - 1) N (bd_cons.mp hr).1 hN
      have c2 := h_clipped q (hi + 1) q.hi N (bd_cons.mp hr).1 hN
      have l1 := clip_len q q.lo (lo - 1)
      have l2 := clip_len q (hi + 1) q.hi
      rw [List.map_cons, forL_nx (ρ' := [some (fD l), some (.int lo), some (.int hi), some (.lst ((rows ++ (clipQ q q.lo (lo - 1) ++ clipQ q (hi + 1) q.hi)).map Q.d)), none]), ih _ (bd_cons.mp hr).2 (by simp; omega)]
      · simp
      · have h2 : rows.length + (clipQ q q.lo (lo - 1)).length ≤ 16777216 := by omega
        have h3 : rows.length + ((clipQ q q.lo (lo - 1)).length + (clipQ q (hi + 1) q.hi).length) ≤ 16777216 := by omega
        simp [w_without_0, c1, c2, h2, h3, Nat.add_assoc]
  have k := loop l [] hb (by simp; omega)
  rw [← er] at k
  refine out_of (go_f0 (by simp [initE, h]) (go_own (z := .lst []) rfl (go_for (xs := l.map Q.d) rfl k ?_)))
  simp [evCs_shr, z]
theorem comp_map {it : Itr} {tg : Tg} {own : List Nat} {e : Ex} {ρ : Env} {α : Type} {k : α → D} {g : α → D} {xs : List α} (h : evi fn it ρ = .ok (xs.map k)) (hl : xs.length ≤ 16777216)
    (hx : ∀ x ∈ xs, (bindT (wipeE ρ own) tg (k x)).bind (fun ρ' => (ev fn e ρ').bind fun d => .ok (some d)) = .ok (some (g x))) : ev fn (.comp it tg own e) ρ = .ok (.lst (xs.map g)) :=
  ev_comp_ok h (by rw [List.length_map]; exact hl) (compL_mapT k g hx)
def S_times (f : List D → R D) : Prop := ∀ (l : List Q) (k : Int) (N : Nat), Asc l → Bd N l → N * k.natAbs + N ≤ Hg → k.natAbs ≤ Hg → l.length ≤ 10000 → f [fD l, .int k] = .ok (fD (laidQ (l.map (Q.mul k))))
theorem times_sp (h_laid : S_laid (fn 42)) : S_times (r_times fn) := fun l k N ha hb hN hk hl => by
  have z := h_laid (.lst ((l.map (Q.mul k)).map Q.d)) (l.map (Q.mul k)) _ rfl (mul_asc ha k) (mul_bd hb k) hN (by rw [List.length_map]; omega)
  have c : ev fn (.comp (.seq (.var 0)) (.one 2) [2] x_times_0) [some (fD l), some (.int k), none] = .ok (.lst (l.map fun q => (q.mul k).d)) :=
    comp_map (k := Q.d) (by simp) (by omega) fun q hq => by
      have b := hb q hq
      have z1 := b.pr; have z2 := b.st
      have m1 : mulOk q.pr k = true := mulH (by omega) (by omega)
      have m2 : mulOk q.st k = true := mulH (by omega) (by omega)
      simp [x_times_0, m1, m2, tup_q, Q.mul]
  rw [List.map_map] at z
  have z : fn 42 [.lst (l.map fun q => (q.mul k).d)] = _ := z
  simp [r_times_eq, b_times, initE, c, z]
def S_raised (f : List D → R D) : Prop := ∀ (l : List Q) (p : Int) (N : Nat), Asc l → Bd N l → N + p.natAbs ≤ Hg → l.length ≤ 10000 → f [fD l, .int p] = .ok (fD (laidQ (l.map (Q.rise p))))
theorem raised_sp (h_laid : S_laid (fn 42)) : S_raised (r_raised fn) := fun l k N ha hb hN hl => by
  have z := h_laid (.lst ((l.map (Q.rise k)).map Q.d)) (l.map (Q.rise k)) _ rfl (rise_asc ha k) (rise_bd hb k) hN (by rw [List.length_map]; omega)
  have c : ev fn (.comp (.seq (.var 0)) (.one 2) [2] x_raised_0) [some (fD l), some (.int k), none] = .ok (.lst (l.map fun q => (q.rise k).d)) :=
    comp_map (k := Q.d) (by simp) (by omega) fun q hq => by simp [x_raised_0, tup_q, Q.rise]
  rw [List.map_map] at z
  have z : fn 42 [.lst (l.map fun q => (q.rise k).d)] = _ := z
  simp [r_raised_eq, b_raised, initE, c, z]
def S_moved (f : List D → R D) : Prop := ∀ (l : List Q) (p : Int) (N : Nat), Asc l → Bd N l → N + p.natAbs ≤ Hg → l.length ≤ 10000 → f [fD l, .int p] = .ok (fD (laidQ (l.map (Q.move p))))
theorem moved_sp (h_laid : S_laid (fn 42)) : S_moved (r_moved fn) := fun l k N ha hb hN hl => by
  have z := h_laid (.lst ((l.map (Q.move k)).map Q.d)) (l.map (Q.move k)) _ rfl (move_asc ha k) (move_bd hb k) hN (by rw [List.length_map]; omega)
  have c : ev fn (.comp (.seq (.var 0)) (.one 2) [2] x_moved_0) [some (fD l), some (.int k), none] = .ok (.lst (l.map fun q => (q.move k).d)) :=
    comp_map (k := Q.d) (by simp) (by omega) fun q hq => by simp [x_moved_0, tup_q, Q.move]
  rw [List.map_map] at z
  have z : fn 42 [.lst (l.map fun q => (q.move k).d)] = _ := z
  simp [r_moved_eq, b_moved, initE, c, z]
def S_freed (f : List D → R D) : Prop := ∀ (l : List Q) (n : Int) (N : Nat), 0 ≤ n → Asc l → Bd N l → N + n.natAbs ≤ Hg → l.length ≤ 10000 → f [fD l, .int n] = .ok (fD (laidQ (freedR l n)))
theorem freed_sp (h_laid : S_laid (fn 42)) (h_cost_at : S_cost_at (fn 49)) (h_clipped : S_clipped (fn 74)) : S_freed (r_freed fn) := fun l n N hn ha hb hN hl => by
  rw [r_freed_eq]
  have z := h_laid (.lst ((freedR l n).map Q.d)) (freedR l n) _ rfl (freed_asc hn ha) (freed_bd hb) hN (by have := freed_len l n; omega)
  have inner : ∀ (P P4 : Option D) (r rows : List Q), rows.length + r.length ≤ 30000 → forL (fun ρ x => thenO (bindT ρ (.many [5, 6, 7, 8]) x) ρ fun ρ' => evCs fn fuel w_freed_0 ρ') (r.map Q.d) [some (fD l), some (.int n), some (.lst (rows.map Q.d)), P, P4, none, none, none, none] = .nx [some (fD l), some (.int n), some (.lst ((rows ++ r.map (Q.move n)).map Q.d)), P, P4, none, none, none, none] := by
    intro P P4 r
    induction r with
    | nil => intro rows _; simp
    | cons q r ih =>
      intro rows hk
      simp only [List.length_cons] at hk
      rw [List.map_cons, forL_nx (ρ' := [some (fD l), some (.int n), some (.lst ((rows ++ [q.move n]).map Q.d)), P, P4, none, none, none, none]), ih _ (by simp; omega)]
      · simp
      · rw [q_many]
        have h2 : rows.length < 16777216 := by omega
        simp [w_freed_0, h2, tup_q, Q.move]
  have outer : ∀ (P : Option D) (r rows : List Q), Bd N r → rows.length + r.length ≤ 20000 → forL (fun ρ x => thenO (bindT ρ (.one 4) x) ρ fun ρ' => evCs fn fuel w_freed_1 ρ') (r.map Q.d) [some (fD l), some (.int n), some (.lst (rows.map Q.d)), P, none, none, none, none, none] = .nx [some (fD l), some (.int n), some (.lst ((rows ++ r.flatMap fun q => (clipQ q 1 q.hi).map (Q.move n)).map Q.d)), P, none, none, none, none, none] := by
    intro P r
    induction r with
    | nil => intro rows _ _; simp
    | cons q r ih =>
      intro rows hr hk
      simp only [List.length_cons] at hk
      have c := h_clipped q 1 q.hi N (bd_cons.mp hr).1 (by omega)
      have cl := clip_len q 1 q.hi
      have k := inner P (some q.d) (clipQ q 1 q.hi) rows (by omega)
      rw [List.map_cons, forL_nx (ρ' := [some (fD l), some (.int n), some (.lst ((rows ++ (clipQ q 1 q.hi).map (Q.move n)).map Q.d)), P, none, none, none, none, none]), ih _ (bd_cons.mp hr).2 (by simp; omega)]
      · simp
      · rw [bind_one, thenO_ok]
        refine go_cmd (ρ' := [some (fD l), some (.int n), some (.lst (rows.map Q.d)), P, some q.d, none, none, none, none]) rfl (go_for (xs := (clipQ q 1 q.hi).map Q.d) ?_ k ?_)
        · simp [c]
        · simp
  have ca := h_cost_at l 0 N hb (by omega)
  unfold freedR at z
  cases hc : costQ l 0 with
  | none =>
    rw [hc] at ca z
    unfold freedR
    rw [hc]
    have k := outer (some .non) l [] hb (by simp; omega)
    refine out_of (go_own (z := .lst []) rfl (go_set (z := .non) (by simp [initE, ca]) (go_f0 (by simp [initE]) (go_for (xs := l.map Q.d) rfl k ?_))))
    simp only [List.nil_append] at z ⊢
    simp [evCs_shr, z]
  | some p =>
    rw [hc] at ca z
    unfold freedR
    rw [hc]
    have k := outer (some (.int p)) l [⟨0, n, p, 0⟩] hb (by simp; omega)
    refine out_of (go_own (z := .lst []) rfl (go_set (z := .int p) (by simp [initE, ca]) (go_cmd (ρ' := [some (fD l), some (.int n), some (.lst ([(⟨0, n, p, 0⟩ : Q)].map Q.d)), some (.int p), none, none, none, none, none]) (by simp [initE, tup_q]) (go_for (xs := l.map Q.d) rfl k ?_))))
    simp [evCs_shr] at z ⊢
    simp [z]
def S_from_costs (f : List D → R D) : Prop := ∀ (first : Int) (cs : List (Option Int)) (N M : Nat), (∀ c ∈ cs, ∀ z, c = some z → z.natAbs ≤ N) → first.natAbs + cs.length ≤ M → N + M ≤ Hg → cs.length ≤ 10000 → f [.int first, .lst (cs.map costD)] = .ok (fD (laidQ (costsR first cs)))
theorem enumL_map {α : Type} (f : α → D) : ∀ (l : List α) (k : Nat), enumL k (l.map f) = (l.zipIdx k).map fun p => .tup [.int p.2, f p.1]
  | [], _ => rfl
  | x :: r, k => by rw [List.map_cons, enumL, enumL_map f r, List.zipIdx_cons]; rfl
theorem from_costs_sp (h_laid : S_laid (fn 42)) : S_from_costs (r_from_costs fn) := fun first cs N M hc hM hN hl => by
  rw [r_from_costs_eq]
  have z := h_laid (.lst ((costsR first cs).map Q.d)) (costsR first cs) _ rfl (costs_asc cs first) (costs_bd hc hM) hN (by have := costs_len cs first; omega)
  have loop : ∀ (r : List (Option Int)) (k : Nat) (rows : List Q), rows.length + r.length ≤ 10000 → forL (fun ρ x => thenO (bindT ρ (.many [3, 4]) x) ρ fun ρ' => evCs fn fuel w_from_costs_0 ρ') (enumL k (r.map costD)) [some (.int first), some (.lst (cs.map costD)), some (.lst (rows.map Q.d)), none, none] = .nx [some (.int first), some (.lst (cs.map costD)), some (.lst ((rows ++ costsR (first + k) r).map Q.d)), none, none] := by
    intro r
    induction r with
    | nil => intro k rows _; simp [enumL, costsR]
    | cons c r ih =>
      intro k rows hk
      simp only [List.length_cons] at hk
      rw [List.map_cons, enumL]
      have e : first + ((k + 1 : Nat) : Int) = first + k + 1 := by omega
      cases c with
      | none =>
        rw [forL_nx (ρ' := [some (.int first), some (.lst (cs.map costD)), some (.lst (rows.map Q.d)), none, none]), ih (k + 1) rows (by omega), e]
        · rfl
        · simp [w_from_costs_0]
      | some z =>
        rw [forL_nx (ρ' := [some (.int first), some (.lst (cs.map costD)), some (.lst ((rows ++ [(⟨first + k, first + k, z, 0⟩ : Q)]).map Q.d)), none, none]), ih (k + 1) _ (by simp; omega), e]
        · simp [costsR]
        · have h2 : rows.length < 16777216 := by omega
          simp [w_from_costs_0, h2, tup_q]
  have k := loop cs 0 [] (by simpa using hl)
  have e0 : first + ((0 : Nat) : Int) = first := by omega
  rw [e0] at k
  refine out_of (go_own (z := .lst []) rfl (go_for (xs := enumL 0 (cs.map costD)) ?_ k ?_))
  · simp [initE]
  · simp [evCs_shr, z]
theorem whL_step {c : Env → R D} {f : Env → O} {n : Nat} {ρ ρ' : Env} (h : c ρ = .ok (.bl true)) (h2 : f ρ = .nx ρ') : whL c f (n + 1) ρ = whL c f n ρ' := by
  rw [whL, h]; simp [h2]
theorem whL_end {c : Env → R D} {f : Env → O} {n : Nat} {ρ : Env} (h : c ρ = .ok (.bl false)) : whL c f (n + 1) ρ = .nx ρ := by
  rw [whL, h]; simp
def S_plus (f : List D → R D) : Prop := ∀ (a b : List Q) (N M : Nat), Asc a → Asc b → Bd N a → Bd M b → N + M ≤ Hg → a.length ≤ 10000 → b.length ≤ 10000 → f [fD a, fD b] = .ok (fD (laidQ (plusR a b)))
theorem plus_sp (h_laid : S_laid (fn 42)) (h_clipped : S_clipped (fn 74)) : S_plus (r_plus fn) := fun A B N M ha hb ba bb hN la lb => by
  rw [r_plus_eq]
  have z := h_laid (.lst ((plusR A B).map Q.d)) (plusR A B) _ rfl (plus_asc ha hb) (plus_bd ba bb) hN (by have := plus_len A B; omega)
  have loop : ∀ (n : Nat) (da ra db rb rows : List Q), A = da ++ ra → B = db ++ rb → ra.length + rb.length < n → rows.length + ra.length + rb.length ≤ 20000 →
      ∃ x y, whL (fun ρ => ev fn x_plus_0 ρ) (fun ρ => evCs fn fuel w_plus_1 ρ) n [some (fD A), some (fD B), some (.lst (rows.map Q.d)), some (.int da.length), some (.int db.length), none, none] = .nx [some (fD A), some (fD B), some (.lst ((rows ++ plusR ra rb).map Q.d)), x, y, none, none] := by
    intro n
    induction n with
    | zero => intro _ _ _ _ _ _ _ h; omega
    | succ n ih =>
      intro da ra db rb rows eA eB hn hr
      have lA : A.length = da.length + ra.length := by rw [eA]; simp
      have lB : B.length = db.length + rb.length := by rw [eB]; simp
      cases ra with
      | nil =>
        refine ⟨some (.int da.length), some (.int db.length), (whL_end ?_).trans ?_⟩
        · have : ¬ da.length < A.length := by simp at lA; omega
          simp [x_plus_0, this]
        · rw [plusR]; simp
      | cons a r =>
        cases rb with
        | nil =>
          refine ⟨some (.int da.length), some (.int db.length), (whL_end ?_).trans ?_⟩
          · have h1 : ¬ db.length < B.length := by simp at lB; omega
            have h2 : da.length < A.length := by simp at lA; omega
            simp [x_plus_0, h1, h2]
          · rw [plusR]; simp
        | cons b t =>
          have iA : ixD (fD A) (.int da.length) = .ok a.d := ix_tup (by omega) (by rw [eA]; simp)
          have iB : ixD (fD B) (.int db.length) = .ok b.d := ix_tup (by omega) (by rw [eB]; simp)
          have h1 : db.length < B.length := by simp at lB; omega
          have h2 : da.length < A.length := by simp at lA; omega
          have qa := ba a (by rw [eA]; simp)
          have qb := bb b (by rw [eB]; simp)
          have c1 := h_clipped a b.lo b.hi N qa (by omega)
          have turn : evCs fn fuel w_plus_1 [some (fD A), some (fD B), some (.lst (rows.map Q.d)), some (.int da.length), some (.int db.length), none, none] = .nx [some (fD A), some (fD B), some (.lst ((rows ++ sumQ a b).map Q.d)), some (.int (if a.hi < b.hi then (da.length : Int) + 1 else da.length)), some (.int (if a.hi < b.hi then (db.length : Int) else db.length + 1)), none, none] := by
            have hrl : rows.length < 16777216 := by omega
            refine go_cmd (ρ' := [some (fD A), some (fD B), some (.lst (rows.map Q.d)), some (.int da.length), some (.int db.length), none, none]) rfl (go_for (xs := (clipQ a b.lo b.hi).map Q.d) (ρ' := [some (fD A), some (fD B), some (.lst ((rows ++ sumQ a b).map Q.d)), some (.int da.length), some (.int db.length), none, none]) ?_ ?_ ?_)
            · simp [iA, iB, c1]
            · by_cases hm : min b.hi a.hi < max b.lo a.lo
              · have e1 : clipQ a b.lo b.hi = [] := by unfold clipQ; rw [if_pos hm]
                have e2 : sumQ a b = [] := by unfold sumQ; rw [if_pos hm]
                rw [e1, e2]; simp
              · have e1 : clipQ a b.lo b.hi = [⟨max b.lo a.lo, min b.hi a.hi, a.at (max b.lo a.lo), a.st⟩] := by unfold clipQ; rw [if_neg hm]
                have e2 : sumQ a b = [⟨max b.lo a.lo, min b.hi a.hi, a.at (max b.lo a.lo) + b.at (max b.lo a.lo), a.st + b.st⟩] := by unfold sumQ; rw [if_neg hm]
                have c2 := h_clipped b (max b.lo a.lo) (min b.hi a.hi) M qb (by omega)
                have e3 : clipQ b (max b.lo a.lo) (min b.hi a.hi) = [⟨max b.lo a.lo, min b.hi a.hi, b.at (max b.lo a.lo), b.st⟩] := by
                  unfold clipQ
                  rw [show max (max b.lo a.lo) b.lo = max b.lo a.lo by omega, show min (min b.hi a.hi) b.hi = min b.hi a.hi by omega, if_neg hm]
                rw [e3] at c2
                rw [e1, e2, List.map_cons, List.map_nil, forL_nx (ρ' := [some (fD A), some (fD B), some (.lst ((rows ++ [(⟨max b.lo a.lo, min b.hi a.hi, a.at (max b.lo a.lo) + b.at (max b.lo a.lo), a.st + b.st⟩ : Q)]).map Q.d)), some (.int da.length), some (.int db.length), none, none])]
                · rfl
                · simp [w_plus_0, iB, c2, hrl, tup_q]
            · by_cases h : a.hi < b.hi
              · simp [iA, iB, h]
              · simp [iA, iB, h]
          have ht : ev fn x_plus_0 [some (fD A), some (fD B), some (.lst (rows.map Q.d)), some (.int da.length), some (.int db.length), none, none] = .ok (.bl true) := by simp [x_plus_0, h1, h2]
          have sl : (sumQ a b).length ≤ 1 := by unfold sumQ; split <;> simp
          simp only [List.length_cons] at hn hr
          rw [whL_step ht turn, plusR]
          by_cases h : a.hi < b.hi
          · obtain ⟨x, y, k⟩ := ih (da ++ [a]) r db (b :: t) (rows ++ sumQ a b) (by rw [eA]; simp) eB (by simp; omega) (by simp; omega)
            refine ⟨x, y, ?_⟩
            rw [if_pos h, if_pos h, if_pos h]
            simp at k ⊢
            exact k
          · obtain ⟨x, y, k⟩ := ih da (a :: r) (db ++ [b]) t (rows ++ sumQ a b) eA (by rw [eB]; simp) (by simp; omega) (by simp; omega)
            refine ⟨x, y, ?_⟩
            rw [if_neg h, if_neg h, if_neg h]
            simp at k ⊢
            exact k
  obtain ⟨x, y, k⟩ := loop fuel [] A [] B [] rfl rfl (by unfold fuel; omega) (by simp; omega)
  refine out_of (go_own (z := .lst []) rfl (go_set (z := .int 0) rfl (go_set (z := .int 0) rfl (go_while k ?_))))
  simp [evCs_shr, z]
end Den
namespace Den
/-! ### where two forms part -/
def unlikeQ (a b : Q) : Int := if a.lo ≠ b.lo then min a.lo b.lo else if a.pr ≠ b.pr then a.lo else if a.st ≠ b.st then a.lo + 1 else min a.hi b.hi + 1
def firstUn : List Q → List Q → Option Int
  | [], [] => none
  | [], b :: _ => some b.lo
  | a :: _, [] => some a.lo
  | a :: r, b :: t => if a = b then firstUn r t else some (unlikeQ a b)
theorem Can.head_gap {q : Q} {r : List Q} (h : Can (q :: r)) (x : Int) (hx : x = q.hi + 1) : costQ r x = none ∨ ∃ z, costQ r x = some z ∧ q.lo ≠ q.hi ∧ z ≠ q.at x := by
  cases e : costQ r x with
  | none => exact .inl rfl
  | some z =>
    obtain ⟨p, hp, p1, p2, p3⟩ := costQ_some e
    have n := (List.pairwise_cons.mp h.p).1 p hp
    have hlo : p.lo = q.hi + 1 := by have := n.1; omega
    obtain ⟨n1, n2⟩ := n.2 hlo
    refine .inr ⟨z, rfl, n1, ?_⟩
    rw [p3, hx, ← hlo, Q.at_lo]; exact n2
theorem unlike_ok {q s : Q} {r t : List Q} (ha : Can (q :: r)) (hb : Can (s :: t)) (hn : q ≠ s) : costQ (q :: r) (unlikeQ q s) ≠ costQ (s :: t) (unlikeQ q s) ∧ ∀ y, y < unlikeQ q s → costQ (q :: r) y = costQ (s :: t) y := by
  have wq := ha.w q (.head _); have ws := hb.w s (.head _)
  unfold unlikeQ
  by_cases h1 : q.lo = s.lo
  · rw [if_neg (by simpa using h1)]
    by_cases h2 : q.pr = s.pr
    · rw [if_neg (by simpa using h2)]
      by_cases h3 : q.st = s.st
      · rw [if_neg (by simpa using h3)]
        have same : ∀ y, q.at y = s.at y := fun y => by unfold Q.at; rw [h1, h2, h3]
        have hh : q.hi ≠ s.hi := fun e => hn (by cases q; cases s; simp at h1 h2 h3 e; simp [h1, h2, h3, e])
        refine ⟨?_, fun y hy => ?_⟩
        · rcases Int.lt_or_gt_of_ne hh with hlt | hlt
          · rw [show min q.hi s.hi + 1 = q.hi + 1 by omega]
            have e1 : costQ (s :: t) (q.hi + 1) = some (s.at (q.hi + 1)) := hb.asc.cost_mem (.head _) (by omega) (by omega)
            rw [e1, costQ, if_neg (by omega)]
            rcases ha.head_gap _ rfl with e | ⟨z, e, _, hz⟩
            · rw [e]; simp
            · rw [e]; intro e2; exact hz (by rw [same]; exact Option.some.inj e2)
          · rw [show min q.hi s.hi + 1 = s.hi + 1 by omega]
            have e1 : costQ (q :: r) (s.hi + 1) = some (q.at (s.hi + 1)) := ha.asc.cost_mem (.head _) (by omega) (by omega)
            rw [e1]
            have e2 : costQ (s :: t) (s.hi + 1) = costQ t (s.hi + 1) := by rw [costQ, if_neg (by omega)]
            rw [e2]
            rcases hb.head_gap _ rfl with e | ⟨z, e, _, hz⟩
            · rw [e]; simp
            · rw [e]; intro e3; exact hz (by rw [← same]; exact (Option.some.inj e3).symm)
        · by_cases hl : y < q.lo
          · rw [ha.asc.cost_lt hl, hb.asc.cost_lt (by omega)]
          · rw [ha.asc.cost_mem (.head _) (by omega) (by omega), hb.asc.cost_mem (.head _) (by omega) (by omega), same]
      · rw [if_pos (by simpa using h3)]
        refine ⟨?_, fun y hy => ?_⟩
        · by_cases c1 : q.lo = q.hi
          · have z1 := ha.z q (.head _) c1
            have c2 : s.lo ≠ s.hi := fun e => h3 (by rw [z1, hb.z s (.head _) e])
            have e1 : costQ (s :: t) (q.lo + 1) = some (s.at (q.lo + 1)) := hb.asc.cost_mem (.head _) (by omega) (by omega)
            rw [e1, costQ, if_neg (by omega)]
            rcases ha.head_gap (q.lo + 1) (by omega) with e | ⟨z, e, hne, _⟩
            · rw [e]; simp
            · exact absurd c1 hne
          · have e1 : costQ (q :: r) (q.lo + 1) = some (q.at (q.lo + 1)) := ha.asc.cost_mem (.head _) (by omega) (by omega)
            rw [e1]
            by_cases c2 : s.lo = s.hi
            · have e2 : costQ (s :: t) (q.lo + 1) = costQ t (q.lo + 1) := by rw [costQ, if_neg (by omega)]
              rw [e2]
              rcases hb.head_gap (q.lo + 1) (by omega) with e | ⟨z, e, hne, _⟩
              · rw [e]; simp
              · exact absurd c2 hne
            · have e2 : costQ (s :: t) (q.lo + 1) = some (s.at (q.lo + 1)) := hb.asc.cost_mem (.head _) (by omega) (by omega)
              rw [e2]
              intro e
              have e := Option.some.inj e
              unfold Q.at at e
              rw [show q.lo + 1 - q.lo = 1 by omega, show q.lo + 1 - s.lo = 1 by omega] at e
              omega
        · by_cases hl : y < q.lo
          · rw [ha.asc.cost_lt hl, hb.asc.cost_lt (by omega)]
          · have ey : y = q.lo := by omega
            rw [ha.asc.cost_mem (.head _) (by omega) (by omega), hb.asc.cost_mem (.head _) (by omega) (by omega), ey, Q.at_lo, h1, Q.at_lo, h2]
    · rw [if_pos (by simpa using h2)]
      refine ⟨?_, fun y hy => by rw [ha.asc.cost_lt hy, hb.asc.cost_lt (by omega)]⟩
      rw [ha.asc.cost_mem (.head _) (Int.le_refl _) wq, hb.asc.cost_mem (.head _) (by omega) (by omega), Q.at_lo, h1, Q.at_lo]
      intro e; exact h2 (Option.some.inj e)
  · rw [if_pos (by simpa using h1)]
    refine ⟨?_, fun y hy => by rw [ha.asc.cost_lt (by omega), hb.asc.cost_lt (by omega)]⟩
    rcases Int.lt_or_gt_of_ne h1 with hlt | hlt
    · rw [show min q.lo s.lo = q.lo by omega, ha.asc.cost_mem (.head _) (Int.le_refl _) wq, hb.asc.cost_lt hlt]; simp
    · rw [show min q.lo s.lo = s.lo by omega, hb.asc.cost_mem (.head _) (Int.le_refl _) ws, ha.asc.cost_lt hlt]; simp
theorem firstUn_ok : ∀ {a b : List Q}, Can a → Can b → match firstUn a b with
    | none => a = b
    | some x => costQ a x ≠ costQ b x ∧ ∀ y, y < x → costQ a y = costQ b y
  | [], [], _, _ => rfl
  | [], s :: t, _, hb => by
    refine ⟨?_, fun y hy => (hb.asc.cost_lt hy).symm⟩
    rw [hb.asc.cost_mem (.head _) (Int.le_refl _) (hb.w s (.head _))]
    intro e; cases e
  | q :: r, [], ha, _ => by
    refine ⟨?_, fun y hy => ha.asc.cost_lt hy⟩
    rw [ha.asc.cost_mem (.head _) (Int.le_refl _) (ha.w q (.head _))]
    intro e; cases e
  | q :: r, s :: t, ha, hb => by
    rw [firstUn]
    by_cases h : q = s
    · subst h
      rw [if_pos rfl]
      have ih := firstUn_ok ha.tail hb.tail
      cases e : firstUn r t with
      | none => rw [e] at ih; simp only at ih ⊢; rw [ih]
      | some x =>
        rw [e] at ih
        obtain ⟨i1, i2⟩ := ih
        have hx : q.hi < x := by
          apply Int.not_le.mp
          intro hle
          exact i1 (by rw [ha.asc.tail_le hle, hb.asc.tail_le hle])
        refine ⟨?_, fun y hy => ?_⟩
        · rw [costQ, costQ, if_neg (by omega), if_neg (by omega)]; exact i1
        · rw [costQ, costQ]
          split
          · rfl
          · exact i2 y hy
    · rw [if_neg h]
      exact unlike_ok ha hb h
theorem firstUn_none {a b : List Q} (ha : Can a) (hb : Can b) : firstUn a b = none ↔ a = b := by
  constructor
  · intro e
    have := firstUn_ok ha hb
    rw [e] at this; exact this
  · intro e
    subst e
    have : ∀ l : List Q, firstUn l l = none := fun l => by
      induction l with
      | nil => rfl
      | cons q r ih => rw [firstUn, if_pos rfl]; exact ih
    exact this a
end Den
namespace Den
/-! ### cuts and the segments between them -/
def pairsC : List Int → List (Int × Int)
  | a :: b :: r => (a, b - 1) :: pairsC (b :: r)
  | _ => []
theorem pairs_cover : ∀ {cs : List Int} {a b x : Int}, a ∈ cs → b ∈ cs → a ≤ x → x < b → cs.Pairwise (· < ·) → ∃ s ∈ pairsC cs, s.1 ≤ x ∧ x ≤ s.2
  | [], _, _, _, h, _, _, _, _ => nomatch h
  | [c], a, b, x, h1, h2, h3, h4, _ => by
    have e1 := List.mem_singleton.mp h1
    have e2 := List.mem_singleton.mp h2
    omega
  | c :: d :: r, a, b, x, h1, h2, h3, h4, hp => by
    obtain ⟨k1, k2⟩ := List.pairwise_cons.mp hp
    have ca : c ≤ a := by
      rcases List.mem_cons.mp h1 with e | h
      · omega
      · have := k1 a h; omega
    by_cases hx : x < d
    · exact ⟨(c, d - 1), List.mem_cons_self, by show c ≤ x; omega, by show x ≤ d - 1; omega⟩
    · have hb : b ∈ d :: r := by
        rcases List.mem_cons.mp h2 with e | h
        · have := k1 d (by simp); omega
        · exact h
      obtain ⟨s, hs, q⟩ := pairs_cover (a := d) (b := b) (x := x) (by simp) hb (by omega) h4 k2
      exact ⟨s, List.mem_cons_of_mem _ hs, q⟩
theorem pairs_out : ∀ {cs : List Int} {s : Int × Int} {c : Int}, s ∈ pairsC cs → c ∈ cs → cs.Pairwise (· < ·) → c ≤ s.1 ∨ s.2 + 1 ≤ c
  | [], _, _, h, _, _ => nomatch h
  | [_], _, _, h, _, _ => nomatch h
  | a :: b :: r, s, c, h, hc, hp => by
    obtain ⟨k1, k2⟩ := List.pairwise_cons.mp hp
    rcases List.mem_cons.mp h with e | h
    · subst e
      rcases List.mem_cons.mp hc with e | hc
      · left; show c ≤ a; omega
      · right
        show b - 1 + 1 ≤ c
        rcases List.mem_cons.mp hc with e | hc
        · omega
        · have := (List.pairwise_cons.mp k2).1 c hc; omega
    · rcases List.mem_cons.mp hc with e | hc
      · left
        have : s.1 ∈ b :: r := by
          have aux : ∀ {cs : List Int} {s : Int × Int}, s ∈ pairsC cs → s.1 ∈ cs := by
            intro cs
            induction cs with
            | nil => intro s h; cases h
            | cons x t ih =>
              intro s h
              cases t with
              | nil => cases h
              | cons y t =>
                rcases List.mem_cons.mp h with e | h
                · rw [e]; exact List.mem_cons_self
                · exact List.mem_cons_of_mem _ (ih h)
          exact aux h
        have := k1 s.1 this
        omega
      · exact pairs_out h hc k2
theorem pairs_in : ∀ {cs : List Int} {s : Int × Int}, s ∈ pairsC cs → cs.Pairwise (· < ·) → s.1 ∈ cs ∧ s.2 + 1 ∈ cs ∧ s.1 ≤ s.2
  | [], _, h, _ => nomatch h
  | [_], _, h, _ => nomatch h
  | a :: b :: r, s, h, hp => by
    obtain ⟨k1, k2⟩ := List.pairwise_cons.mp hp
    rcases List.mem_cons.mp h with e | h
    · subst e
      have := k1 b (by simp)
      exact ⟨by simp, by show b - 1 + 1 ∈ _; rw [show b - 1 + 1 = b by omega]; simp, by show a ≤ b - 1; omega⟩
    · obtain ⟨q1, q2, q3⟩ := pairs_in h k2
      exact ⟨List.mem_cons_of_mem _ q1, List.mem_cons_of_mem _ q2, q3⟩
theorem pairs_asc : ∀ {cs : List Int}, cs.Pairwise (· < ·) → (pairsC cs).Pairwise fun s t => s.2 < t.1
  | [], _ => .nil
  | [_], _ => .nil
  | a :: b :: r, hp => by
    obtain ⟨k1, k2⟩ := List.pairwise_cons.mp hp
    refine List.pairwise_cons.mpr ⟨fun t ht => ?_, pairs_asc k2⟩
    obtain ⟨q1, _, _⟩ := pairs_in ht k2
    show b - 1 < t.1
    rcases List.mem_cons.mp q1 with e | q1
    · omega
    · have := (List.pairwise_cons.mp k2).1 _ q1; omega
theorem pairs_len : ∀ cs : List Int, (pairsC cs).length = cs.length - 1
  | [] => rfl
  | [_] => rfl
  | a :: b :: r => by rw [pairsC, List.length_cons, pairs_len (b :: r)]; simp
theorem segs_cost {g : Int × Int → List Q} {o : Int → Option Int} (x : Int) : ∀ {S : List (Int × Int)}, (∀ s ∈ S, costQ (g s) x = if s.1 ≤ x ∧ x ≤ s.2 then o x else none) →
    ((∃ s ∈ S, s.1 ≤ x ∧ x ≤ s.2) → costQ (S.flatMap g) x = o x) ∧ ((¬ ∃ s ∈ S, s.1 ≤ x ∧ x ≤ s.2) → costQ (S.flatMap g) x = none)
  | [], _ => ⟨(fun ⟨_, h, _⟩ => nomatch h), fun _ => rfl⟩
  | s :: S, h => by
    obtain ⟨k1, k2⟩ := segs_cost x (S := S) fun t ht => h t (List.mem_cons_of_mem _ ht)
    have hs := h s List.mem_cons_self
    rw [List.flatMap_cons, costQ_app, hs]
    by_cases h1 : s.1 ≤ x ∧ x ≤ s.2
    · rw [if_pos h1]
      refine ⟨fun _ => ?_, fun q => absurd ⟨s, List.mem_cons_self, h1⟩ q⟩
      by_cases h2 : ∃ s ∈ S, s.1 ≤ x ∧ x ≤ s.2
      · rw [k1 h2]; cases o x <;> rfl
      · rw [k2 h2]; cases o x <;> rfl
    · rw [if_neg h1]
      refine ⟨fun ⟨t, ht, q⟩ => ?_, fun q => ?_⟩
      · rcases List.mem_cons.mp ht with e | ht
        · subst e; exact absurd q h1
        · rw [k1 ⟨t, ht, q⟩]; rfl
      · rw [k2 fun ⟨t, ht, r⟩ => q ⟨t, List.mem_cons_of_mem _ ht, r⟩]; rfl
theorem segs_asc {g : Int × Int → List Q} : ∀ {S : List (Int × Int)}, (S.Pairwise fun s t => s.2 < t.1) → (∀ s ∈ S, Asc (g s)) → (∀ s ∈ S, ∀ q ∈ g s, s.1 ≤ q.lo ∧ q.hi ≤ s.2) → Asc (S.flatMap g)
  | [], _, _, _ => Asc.nil
  | s :: S, hp, ha, hi => by
    obtain ⟨k1, k2⟩ := List.pairwise_cons.mp hp
    rw [List.flatMap_cons]
    refine asc_app.mpr ⟨ha s (by simp), segs_asc k2 (fun t ht => ha t (by simp [ht])) (fun t ht => hi t (by simp [ht])), fun a hA b hB => ?_⟩
    obtain ⟨t, ht, hb⟩ := List.mem_flatMap.mp hB
    have h1 := hi s (by simp) a hA
    have h2 := hi t (by simp [ht]) b hb
    have h3 := k1 t ht
    omega
/-- the line over an amount -/
def lnQ : List Q → Int → Option (Int × Int)
  | [], _ => none
  | q :: r, x => if q.lo ≤ x ∧ x ≤ q.hi then some (q.at x, q.st) else lnQ r x
theorem lnQ_app (r s : List Q) (x : Int) : lnQ (r ++ s) x = (lnQ r x).or (lnQ s x) := by
  induction r with
  | nil => rfl
  | cons q r ih =>
    rw [List.cons_append, lnQ, lnQ, ih]
    split <;> rfl
theorem lnQ_none {l : List Q} {x : Int} (h : ∀ q ∈ l, ¬ (q.lo ≤ x ∧ x ≤ q.hi)) : lnQ l x = none := by
  induction l with
  | nil => rfl
  | cons q r ih => rw [lnQ, if_neg (h q (.head _)), ih fun q hq => h q (.tail _ hq)]
theorem lnQ_some {l : List Q} {x : Int} {z : Int × Int} (h : lnQ l x = some z) : ∃ q ∈ l, q.lo ≤ x ∧ x ≤ q.hi ∧ z = (q.at x, q.st) := by
  induction l with
  | nil => cases h
  | cons q r ih =>
    rw [lnQ] at h
    split at h
    · rename_i c; exact ⟨q, .head _, c.1, c.2, by cases h; rfl⟩
    · obtain ⟨p, h1, h2⟩ := ih h; exact ⟨p, .tail _ h1, h2⟩
/-- a form's cost on a segment that no stretch's end cuts -/
theorem ln_cost : ∀ {l : List Q} {lo hi : Int}, (∀ q ∈ l, (q.lo ≤ lo ∨ hi + 1 ≤ q.lo) ∧ (q.hi + 1 ≤ lo ∨ hi + 1 ≤ q.hi + 1)) → ∀ x, lo ≤ x → x ≤ hi → costQ l x = (lnQ l lo).map fun z => z.1 + z.2 * (x - lo)
  | [], _, _, _, _, _, _ => rfl
  | q :: r, lo, hi, h, x, h1, h2 => by
    have hq := h q (.head _)
    rw [costQ, lnQ]
    by_cases c : q.lo ≤ x ∧ x ≤ q.hi
    · rw [if_pos c, if_pos (by omega)]
      show some (q.at x) = some (q.at lo + q.st * (x - lo))
      rw [Q.at_sub q x lo]
    · rw [if_neg c, if_neg (by omega)]
      exact ln_cost (fun q hq => h q (.tail _ hq)) x h1 h2
/-- .. and the piece of its line lies within the bounds -/
theorem ln_bd {l : List Q} {lo hi : Int} {N : Nat} (hb : Bd N l) (h : ∀ q ∈ l, (q.lo ≤ lo ∨ hi + 1 ≤ q.lo) ∧ (q.hi + 1 ≤ lo ∨ hi + 1 ≤ q.hi + 1)) (h2 : lo ≤ hi) {z : Int × Int} (e : lnQ l lo = some z) : Q.bd N ⟨lo, hi, z.1, z.2⟩ := by
  obtain ⟨q, hq, q1, q2, rfl⟩ := lnQ_some e
  have := h q hq
  exact (hb q hq).sub q1 h2 (by omega)
def cutsOf (l : List Q) : List Int := l.flatMap fun q => [q.lo, q.hi + 1]
theorem cutsOf_mem {l : List Q} {q : Q} (h : q ∈ l) : q.lo ∈ cutsOf l ∧ q.hi + 1 ∈ cutsOf l := ⟨List.mem_flatMap.mpr ⟨q, h, by simp⟩, List.mem_flatMap.mpr ⟨q, h, by simp⟩⟩
theorem cutsOf_len (l : List Q) : (cutsOf l).length = 2 * l.length := by
  induction l with
  | nil => rfl
  | cons q r ih => rw [cutsOf, List.flatMap_cons, List.length_append, ← cutsOf, ih, List.length_cons]; simp; omega
theorem seg_clean {cs : List Int} (hp : cs.Pairwise (· < ·)) {s : Int × Int} (hs : s ∈ pairsC cs) {l : List Q} (hl : ∀ c ∈ cutsOf l, c ∈ cs) : ∀ q ∈ l, (q.lo ≤ s.1 ∨ s.2 + 1 ≤ q.lo) ∧ (q.hi + 1 ≤ s.1 ∨ s.2 + 1 ≤ q.hi + 1) := fun q hq => by
  obtain ⟨h1, h2⟩ := cutsOf_mem hq
  exact ⟨pairs_out hs (hl _ h1) hp, pairs_out hs (hl _ h2) hp⟩
theorem seg_none {cs : List Int} (hp : cs.Pairwise (· < ·)) {l : List Q} (hl : ∀ c ∈ cutsOf l, c ∈ cs) {x : Int} (h : ¬ ∃ s ∈ pairsC cs, s.1 ≤ x ∧ x ≤ s.2) : costQ l x = none := costQ_none fun q hq c => by
  obtain ⟨h1, h2⟩ := cutsOf_mem hq
  exact h (pairs_cover (hl _ h1) (hl _ h2) c.1 (by omega) hp)
/-! ### where a line is no dearer than another -/
def noDear (p s n : Int) : Option (Int × Int) :=
  if s = 0 ∧ 0 < p then none
  else if (if 0 < s then min n ((-p).fdiv s) else n) < (if s < 0 then max 0 (-((-p).fdiv (-s))) else 0) then none
  else some (if s < 0 then max 0 (-((-p).fdiv (-s))) else 0, if 0 < s then min n ((-p).fdiv s) else n)
theorem fdiv_ediv {a b : Int} (h : 0 < b) : a.fdiv b = a / b := Int.fdiv_eq_ediv_of_nonneg a (by omega)
theorem gap_pos {p s x : Int} (h : 0 < s) : p + s * x ≤ 0 ↔ x ≤ (-p).fdiv s := by
  rw [fdiv_ediv h, Int.le_ediv_iff_mul_le h, Int.mul_comm]
  omega
theorem gap_neg {p s x : Int} (h : s < 0) : p + s * x ≤ 0 ↔ -((-p).fdiv (-s)) ≤ x := by
  have : -((-p).fdiv (-s)) ≤ x ↔ -x ≤ (-p).fdiv (-s) := by omega
  rw [this, fdiv_ediv (show 0 < -s by omega), Int.le_ediv_iff_mul_le (by omega), Int.neg_mul_neg, Int.mul_comm]
  omega
theorem noDear_ok (p s n : Int) (hn : 0 ≤ n) : match noDear p s n with
    | none => ∀ x, 0 ≤ x → x ≤ n → 0 < p + s * x
    | some (F, L) => 0 ≤ F ∧ F ≤ L ∧ L ≤ n ∧ ∀ x, 0 ≤ x → x ≤ n → (p + s * x ≤ 0 ↔ F ≤ x ∧ x ≤ L) := by
  unfold noDear
  by_cases h0 : s = 0 ∧ 0 < p
  · rw [if_pos h0]
    intro x _ _
    rw [h0.1, Int.zero_mul]; omega
  · rw [if_neg h0]
    by_cases h1 : 0 < s
    · have g := fun x => gap_pos (p := p) (x := x) h1
      have hn1 : ¬ s < 0 := by omega
      rw [if_pos h1, if_neg hn1]
      generalize (-p).fdiv s = q at *
      by_cases h2 : min n q < 0
      · rw [if_pos h2]
        intro x a b
        have := g x
        omega
      · rw [if_neg h2]
        refine ⟨by omega, by omega, by omega, fun x a b => ?_⟩
        rw [g x]; omega
    · rw [if_neg h1]
      by_cases h3 : s < 0
      · have g := fun x => gap_neg (p := p) (x := x) h3
        rw [if_pos h3]
        generalize -((-p).fdiv (-s)) = q at *
        by_cases h2 : n < max 0 q
        · rw [if_pos h2]
          intro x a b
          have := g x
          omega
        · rw [if_neg h2]
          refine ⟨by omega, by omega, by omega, fun x a b => ?_⟩
          rw [g x]; omega
      · have e : s = 0 := by omega
        rw [if_neg h3, if_neg (by omega)]
        refine ⟨by omega, by omega, by omega, fun x a b => ?_⟩
        rw [e, Int.zero_mul]; omega
/-- the lower one of two lines, by stretches -/
def lowerR (a b : Int × Int) (lo hi : Int) : List Q := match noDear (a.1 - b.1) (a.2 - b.2) (hi - lo) with
  | none => [⟨lo, hi, b.1, b.2⟩]
  | some (F, L) => (if lo < lo + F then [⟨lo, lo + F - 1, b.1, b.2⟩] else []) ++ [⟨lo + F, lo + L, a.1 + a.2 * F, a.2⟩] ++ (if lo + L < hi then [⟨lo + L + 1, hi, b.1 + b.2 * (L + 1), b.2⟩] else [])
theorem line_diff (a b : Int × Int) (t : Int) : a.1 - b.1 + (a.2 - b.2) * t = (a.1 + a.2 * t) - (b.1 + b.2 * t) := by
  rw [Int.sub_mul]; omega
theorem lower_ok (a b : Int × Int) (lo hi : Int) (h : lo ≤ hi) : Asc (lowerR a b lo hi) ∧ (∀ q ∈ lowerR a b lo hi, lo ≤ q.lo ∧ q.hi ≤ hi) ∧ (lowerR a b lo hi).length ≤ 3 ∧
    (∀ N, Q.bd N ⟨lo, hi, a.1, a.2⟩ → Q.bd N ⟨lo, hi, b.1, b.2⟩ → Bd N (lowerR a b lo hi)) ∧
    ∀ x, costQ (lowerR a b lo hi) x = if lo ≤ x ∧ x ≤ hi then some (min (a.1 + a.2 * (x - lo)) (b.1 + b.2 * (x - lo))) else none := by
  have ok := noDear_ok (a.1 - b.1) (a.2 - b.2) (hi - lo) (by omega)
  unfold lowerR
  cases e : noDear (a.1 - b.1) (a.2 - b.2) (hi - lo) with
  | none =>
    rw [e] at ok
    refine ⟨Asc.one h, ?_, by simp, fun N _ h2 => bd_cons.mpr ⟨h2, Bd.nil⟩, fun x => ?_⟩
    · intro q hq; rw [List.mem_singleton.mp hq]; exact ⟨Int.le_refl _, Int.le_refl _⟩
    · simp only [costQ]
      by_cases c : lo ≤ x ∧ x ≤ hi
      · rw [if_pos c, if_pos c]
        have := ok (x - lo) (by omega) (by omega)
        rw [line_diff] at this
        show some (b.1 + b.2 * (x - lo)) = _
        congr 1; omega
      · rw [if_neg c, if_neg c]
  | some FL =>
    obtain ⟨F, L⟩ := FL
    rw [e] at ok
    obtain ⟨o1, o2, o3, o4⟩ := ok
    have at1 : ∀ x, Q.at ⟨lo + F, lo + L, a.1 + a.2 * F, a.2⟩ x = a.1 + a.2 * (x - lo) := fun x => by
      show a.1 + a.2 * F + a.2 * (x - (lo + F)) = _
      rw [show x - lo = F + (x - (lo + F)) by omega, Int.mul_add]; omega
    have at2 : ∀ x, Q.at ⟨lo + L + 1, hi, b.1 + b.2 * (L + 1), b.2⟩ x = b.1 + b.2 * (x - lo) := fun x => by
      show b.1 + b.2 * (L + 1) + b.2 * (x - (lo + L + 1)) = _
      rw [show x - lo = (L + 1) + (x - (lo + L + 1)) by omega, Int.mul_add b.2 (L + 1)]; omega
    have c1 : ∀ x, costQ (if lo < lo + F then [⟨lo, lo + F - 1, b.1, b.2⟩] else []) x = if lo ≤ x ∧ x < lo + F then some (b.1 + b.2 * (x - lo)) else none := fun x => by
      split
      · simp only [costQ]
        by_cases c : lo ≤ x ∧ x ≤ lo + F - 1
        · rw [if_pos c, if_pos (by omega)]; rfl
        · rw [if_neg c, if_neg (by omega)]
      · rw [costQ, if_neg (by omega)]
    have c2 : ∀ x, costQ [⟨lo + F, lo + L, a.1 + a.2 * F, a.2⟩] x = if lo + F ≤ x ∧ x ≤ lo + L then some (a.1 + a.2 * (x - lo)) else none := fun x => by
      simp only [costQ]
      rw [at1 x]
    have c3 : ∀ x, costQ (if lo + L < hi then [⟨lo + L + 1, hi, b.1 + b.2 * (L + 1), b.2⟩] else []) x = if lo + L < x ∧ x ≤ hi then some (b.1 + b.2 * (x - lo)) else none := fun x => by
      split
      · simp only [costQ]
        rw [at2 x]
        by_cases c : lo + L + 1 ≤ x ∧ x ≤ hi
        · rw [if_pos c, if_pos (by omega)]
        · rw [if_neg c, if_neg (by omega)]
      · rw [costQ, if_neg (by omega)]
    refine ⟨?_, ?_, ?_, fun N b1 b2 => ?_, fun x => ?_⟩
    · refine asc_app.mpr ⟨asc_app.mpr ⟨?_, Asc.one (by show lo + F ≤ lo + L; omega), fun p hp q hq => ?_⟩, ?_, fun p hp q hq => ?_⟩
      · split
        · exact Asc.one (by show lo ≤ lo + F - 1; omega)
        · exact Asc.nil
      · rw [List.mem_singleton.mp hq]
        split at hp
        · rw [List.mem_singleton.mp hp]; show lo + F - 1 < lo + F; omega
        · cases hp
      · split
        · exact Asc.one (by show lo + L + 1 ≤ hi; omega)
        · exact Asc.nil
      · split at hq
        · rw [List.mem_singleton.mp hq]
          show p.hi < lo + L + 1
          rcases List.mem_append.mp hp with hp | hp
          · split at hp
            · rw [List.mem_singleton.mp hp]; show lo + F - 1 < _; omega
            · cases hp
          · rw [List.mem_singleton.mp hp]; show lo + L < _; omega
        · cases hq
    · intro q hq
      rcases List.mem_append.mp hq with hq | hq
      · rcases List.mem_append.mp hq with hq | hq
        · split at hq
          · rw [List.mem_singleton.mp hq]; exact ⟨Int.le_refl _, by show lo + F - 1 ≤ hi; omega⟩
          · cases hq
        · rw [List.mem_singleton.mp hq]; exact ⟨by show lo ≤ lo + F; omega, by show lo + L ≤ hi; omega⟩
      · split at hq
        · rw [List.mem_singleton.mp hq]; exact ⟨by show lo ≤ lo + L + 1; omega, Int.le_refl _⟩
        · cases hq
    · have h1 : ((if lo < lo + F then [(⟨lo, lo + F - 1, b.1, b.2⟩ : Q)] else []) : List Q).length ≤ 1 := by split <;> simp
      have h2 : ((if lo + L < hi then [(⟨lo + L + 1, hi, b.1 + b.2 * (L + 1), b.2⟩ : Q)] else []) : List Q).length ≤ 1 := by split <;> simp
      rw [List.length_append, List.length_append, List.length_singleton]; omega
    · refine bd_app.mpr ⟨bd_app.mpr ⟨?_, bd_cons.mpr ⟨?_, Bd.nil⟩⟩, ?_⟩
      · split
        · refine bd_cons.mpr ⟨?_, Bd.nil⟩
          have := b2.sub (a := lo) (b := lo + F - 1) (Int.le_refl _) (by omega) (by show lo + F - 1 ≤ hi; omega)
          rwa [show Q.at ⟨lo, hi, b.1, b.2⟩ lo = b.1 from Q.at_lo ⟨lo, hi, b.1, b.2⟩] at this
        · exact Bd.nil
      · have := b1.sub (a := lo + F) (b := lo + L) (by show lo ≤ lo + F; omega) (by omega) (by show lo + L ≤ hi; omega)
        rwa [show Q.at ⟨lo, hi, a.1, a.2⟩ (lo + F) = a.1 + a.2 * F by show a.1 + a.2 * (lo + F - lo) = _; rw [show lo + F - lo = F by omega]] at this
      · split
        · refine bd_cons.mpr ⟨?_, Bd.nil⟩
          have := b2.sub (a := lo + L + 1) (b := hi) (by show lo ≤ lo + L + 1; omega) (by omega) (Int.le_refl _)
          rwa [show Q.at ⟨lo, hi, b.1, b.2⟩ (lo + L + 1) = b.1 + b.2 * (L + 1) by show b.1 + b.2 * (lo + L + 1 - lo) = _; rw [show lo + L + 1 - lo = L + 1 by omega]] at this
        · exact Bd.nil
    · show costQ (_ ++ _ ++ _) x = _
      rw [costQ_app, costQ_app, c1, c2, c3]
      by_cases c : lo ≤ x ∧ x ≤ hi
      · rw [if_pos c]
        have k := o4 (x - lo) (by omega) (by omega)
        rw [line_diff] at k
        by_cases d1 : x < lo + F
        · rw [if_pos ⟨c.1, d1⟩]
          show some (b.1 + b.2 * (x - lo)) = _
          have : ¬ (F ≤ x - lo ∧ x - lo ≤ L) := by omega
          have := mt k.mp this
          congr 1; omega
        · rw [if_neg (by omega)]
          by_cases d2 : x ≤ lo + L
          · rw [if_pos (by omega)]
            show some (a.1 + a.2 * (x - lo)) = _
            have := k.mpr (by omega)
            congr 1; omega
          · rw [if_neg (by omega), if_pos (by omega)]
            show some (b.1 + b.2 * (x - lo)) = _
            have : ¬ (F ≤ x - lo ∧ x - lo ≤ L) := by omega
            have := mt k.mp this
            congr 1; omega
      · rw [if_neg c, if_neg (by omega), if_neg (by omega), if_neg (by omega)]; rfl
end Den
namespace Den
open PySem PySem.Spec PyProof.Rows L2
variable {fn : Nat → List D → R D}
def b_no_dearer : Cmds := (.cons (.set 4 (.bin .sub (.ix (.var 0) (.cst (.int 0))) (.ix (.var 1) (.cst (.int 0))))) (.cons (.set 5 (.bin .sub (.ix (.var 0) (.cst (.int 1))) (.ix (.var 1) (.cst (.int 1))))) (.cons (.set 6 (.cst (.int 0))) (.cons (.set 7 (.bin .sub (.var 3) (.var 2))) (.cons (.if_ (.cmp .gt (.var 5) (.cst (.int 0))) (.cons (.set 7 (.bi .min2 (.cons (.var 7) (.cons (.call 1 (.cons (.neg (.var 4)) (.cons (.var 5) .nil))) .nil)))) .nil) (.cons (.if_ (.cmp .lt (.var 5) (.cst (.int 0))) (.cons (.set 6 (.bi .max2 (.cons (.var 6) (.cons (.call 2 (.cons (.var 4) (.cons (.neg (.var 5)) .nil))) .nil)))) .nil) (.cons (.if_ (.cmp .gt (.var 4) (.cst (.int 0))) (.cons (.ret (.cst .non)) .nil) .nil) .nil)) .nil)) (.cons (.if_ (.cmp .gt (.var 6) (.var 7)) (.cons (.ret (.cst .non)) .nil) .nil) (.cons (.ret (.tup (.cons (.bin .add (.var 2) (.var 6)) (.cons (.bin .add (.var 2) (.var 7)) .nil)))) .nil)))))))
abbrev r_no_dearer (fn : Nat → List D → R D) : List D → R D := runF fn fuel 8 false b_no_dearer
theorem r_no_dearer_eq (fn zs) : r_no_dearer fn zs = outO false (evCs fn fuel b_no_dearer (initE 8 zs)) := runF_eq _ _ _ _ _ _
theorem r_no_dearer_at (fn : Nat → List D → R D) (z0 z1 z2 z3 : D) : r_no_dearer fn [z0, z1, z2, z3] = outO false (evCs fn fuel b_no_dearer [some z0, some z1, some z2, some z3, none, none, none, none]) := r_no_dearer_eq fn _
def b_lower_line : Cmds := (.cons (.set 4 (.call 12 (.cons (.var 0) (.cons (.var 1) (.cons (.var 2) (.cons (.var 3) .nil)))))) (.cons (.if_ (.isN (.var 4)) (.cons (.ret (.lst (.cons (.tup (.cons (.var 2) (.cons (.var 3) (.cons (.ix (.var 1) (.cst (.int 0))) (.cons (.ix (.var 1) (.cst (.int 1))) .nil))))) .nil))) .nil) .nil) (.cons (.tgt [6, 7] (.var 4)) (.cons (.own 5 (.lst .nil)) (.cons (.if_ (.cmp .lt (.var 2) (.var 6)) (.cons (.app 5 (.tup (.cons (.var 2) (.cons (.bin .sub (.var 6) (.cst (.int 1))) (.cons (.ix (.var 1) (.cst (.int 0))) (.cons (.ix (.var 1) (.cst (.int 1))) .nil)))))) .nil) .nil) (.cons (.app 5 (.tup (.cons (.var 6) (.cons (.var 7) (.cons (.call 7 (.cons (.var 0) (.cons (.var 2) (.cons (.var 6) .nil)))) (.cons (.ix (.var 0) (.cst (.int 1))) .nil)))))) (.cons (.if_ (.cmp .lt (.var 7) (.var 3)) (.cons (.app 5 (.tup (.cons (.bin .add (.var 7) (.cst (.int 1))) (.cons (.var 3) (.cons (.call 7 (.cons (.var 1) (.cons (.var 2) (.cons (.bin .add (.var 7) (.cst (.int 1))) .nil)))) (.cons (.ix (.var 1) (.cst (.int 1))) .nil)))))) .nil) .nil) (.cons (.retM 5) .nil))))))))
abbrev r_lower_line (fn : Nat → List D → R D) : List D → R D := runF fn fuel 8 true b_lower_line
theorem r_lower_line_eq (fn zs) : r_lower_line fn zs = outO true (evCs fn fuel b_lower_line (initE 8 zs)) := runF_eq _ _ _ _ _ _
theorem r_lower_line_at (fn : Nat → List D → R D) (z0 z1 z2 z3 : D) : r_lower_line fn [z0, z1, z2, z3] = outO true (evCs fn fuel b_lower_line [some z0, some z1, some z2, some z3, none, none, none, none]) := r_lower_line_eq fn _
def x_lines_over_0 : Ex := (.and_ (.cmp .lt (.var 3) (.bi .len (.cons (.var 0) .nil))) (.cmp .lt (.ix (.ix (.var 0) (.var 3)) (.cst (.int 1))) (.var 4)))
def w_lines_over_0 : Cmds := (.cons (.aug 3 false (.cst (.int 1))) .nil)
def w_lines_over_1 : Cmds := (.cons (.while_ x_lines_over_0 w_lines_over_0) (.cons (.if_ (.and_ (.cmp .lt (.var 3) (.bi .len (.cons (.var 0) .nil))) (.cmp .le (.ix (.ix (.var 0) (.var 3)) (.cst (.int 0))) (.var 4))) (.cons (.set 5 (.ix (.var 0) (.var 3))) (.cons (.app 2 (.tup (.cons (.call 7 (.cons (.tup (.cons (.ix (.var 5) (.cst (.int 2))) (.cons (.ix (.var 5) (.cst (.int 3))) .nil))) (.cons (.ix (.var 5) (.cst (.int 0))) (.cons (.var 4) .nil)))) (.cons (.ix (.var 5) (.cst (.int 3))) .nil)))) .nil)) (.cons (.app 2 (.cst .non)) .nil)) (.cons (.kill [4, 5]) .nil)))
def b_lines_over : Cmds := (.cons (.own 2 (.lst .nil)) (.cons (.set 3 (.cst (.int 0))) (.cons (.for_ (.seq (.var 1)) (.one 4) w_lines_over_1) (.cons (.retM 2) .nil))))
abbrev r_lines_over (fn : Nat → List D → R D) : List D → R D := runF fn fuel 6 true b_lines_over
theorem r_lines_over_eq (fn zs) : r_lines_over fn zs = outO true (evCs fn fuel b_lines_over (initE 6 zs)) := runF_eq _ _ _ _ _ _
theorem r_lines_over_at (fn : Nat → List D → R D) (z0 z1 : D) : r_lines_over fn [z0, z1] = outO true (evCs fn fuel b_lines_over [some z0, some z1, none, none, none, none]) := r_lines_over_eq fn _
def w_side_by_side_0 : Cmds := (.cons (.app 2 (.ix (.var 3) (.cst (.int 0)))) (.cons (.app 2 (.bin .add (.ix (.var 3) (.cst (.int 1))) (.cst (.int 1)))) (.cons (.kill [3]) .nil)))
def x_side_by_side_0 : Ex := (.bin .sub (.var 6) (.cst (.int 1)))
def b_side_by_side : Cmds := (.cons (.own 2 (.lst .nil)) (.cons (.for_ (.seq (.bin .add (.var 0) (.var 1))) (.one 3) w_side_by_side_0) (.cons (.own 2 (.sset (.var 2))) (.cons (.set 4 (.slT (.var 2) (.neg (.cst (.int 1))))) (.cons (.set 5 (.comp (.seq (.slF (.var 2) (.cst (.int 1)))) (.one 6) [6] x_side_by_side_0)) (.cons (.ret (.lzip (.cons (.var 4) (.cons (.var 5) (.cons (.call 91 (.cons (.var 0) (.cons (.var 4) .nil))) (.cons (.call 91 (.cons (.var 1) (.cons (.var 4) .nil))) .nil)))))) .nil))))))
abbrev r_side_by_side (fn : Nat → List D → R D) : List D → R D := runF fn fuel 7 true b_side_by_side
theorem r_side_by_side_eq (fn zs) : r_side_by_side fn zs = outO true (evCs fn fuel b_side_by_side (initE 7 zs)) := runF_eq _ _ _ _ _ _
theorem r_side_by_side_at (fn : Nat → List D → R D) (z0 z1 : D) : r_side_by_side fn [z0, z1] = outO true (evCs fn fuel b_side_by_side [some z0, some z1, none, none, none, none, none]) := r_side_by_side_eq fn _
def w_least_0 : Cmds := (.cons (.if_ (.and_ (.notN (.var 5)) (.notN (.var 6))) (.cons (.ext 2 (.call 18 (.cons (.var 5) (.cons (.var 6) (.cons (.var 3) (.cons (.var 4) .nil)))))) .nil) (.cons (.if_ (.notN (.var 5)) (.cons (.app 2 (.tup (.cons (.var 3) (.cons (.var 4) (.cons (.ix (.var 5) (.cst (.int 0))) (.cons (.ix (.var 5) (.cst (.int 1))) .nil)))))) .nil) (.cons (.if_ (.notN (.var 6)) (.cons (.app 2 (.tup (.cons (.var 3) (.cons (.var 4) (.cons (.ix (.var 6) (.cst (.int 0))) (.cons (.ix (.var 6) (.cst (.int 1))) .nil)))))) .nil) .nil) .nil)) .nil)) (.cons (.kill [3, 4, 5, 6]) .nil))
def b_least : Cmds := (.cons (.own 2 (.lst .nil)) (.cons (.for_ (.seq (.call 306 (.cons (.var 0) (.cons (.var 1) .nil)))) (.many [3, 4, 5, 6]) w_least_0) (.shr 2 (.cons (.ret (.call 42 (.cons (.var 2) .nil))) .nil))))
abbrev r_least (fn : Nat → List D → R D) : List D → R D := runF fn fuel 7 false b_least
theorem r_least_eq (fn zs) : r_least fn zs = outO false (evCs fn fuel b_least (initE 7 zs)) := runF_eq _ _ _ _ _ _
theorem r_least_at (fn : Nat → List D → R D) (z0 z1 : D) : r_least fn [z0, z1] = outO false (evCs fn fuel b_least [some z0, some z1, none, none, none, none, none]) := r_least_eq fn _
def w_greatest_0 : Cmds := (.cons (.app 2 (.tup (.cons (.var 7) (.cons (.var 8) (.cons (.neg (.var 9)) (.cons (.neg (.var 10)) .nil)))))) (.cons (.kill [7, 8, 9, 10]) .nil))
def w_greatest_1 : Cmds := (.cons (.if_ (.and_ (.notN (.var 5)) (.notN (.var 6))) (.cons (.kill [7, 8, 9, 10]) (.cons (.for_ (.seq (.call 18 (.cons (.tup (.cons (.neg (.ix (.var 5) (.cst (.int 0)))) (.cons (.neg (.ix (.var 5) (.cst (.int 1)))) .nil))) (.cons (.tup (.cons (.neg (.ix (.var 6) (.cst (.int 0)))) (.cons (.neg (.ix (.var 6) (.cst (.int 1)))) .nil))) (.cons (.var 3) (.cons (.var 4) .nil)))))) (.many [7, 8, 9, 10]) w_greatest_0) .nil)) .nil) (.cons (.kill [3, 4, 5, 6, 7, 8, 9, 10]) .nil))
def b_greatest : Cmds := (.cons (.own 2 (.lst .nil)) (.cons (.for_ (.seq (.call 306 (.cons (.var 0) (.cons (.var 1) .nil)))) (.many [3, 4, 5, 6]) w_greatest_1) (.shr 2 (.cons (.ret (.call 42 (.cons (.var 2) .nil))) .nil))))
abbrev r_greatest (fn : Nat → List D → R D) : List D → R D := runF fn fuel 11 false b_greatest
theorem r_greatest_eq (fn zs) : r_greatest fn zs = outO false (evCs fn fuel b_greatest (initE 11 zs)) := runF_eq _ _ _ _ _ _
theorem r_greatest_at (fn : Nat → List D → R D) (z0 z1 : D) : r_greatest fn [z0, z1] = outO false (evCs fn fuel b_greatest [some z0, some z1, none, none, none, none, none, none, none, none, none]) := r_greatest_eq fn _
def prI (p : Int × Int) : D := .tup [.int p.1, .int p.2]
@[simp] theorem ix_i0 (p : Int × Int) : ixD (prI p) (.int 0) = .ok (.int p.1) := ix_tup0 _ _
@[simp] theorem ix_i1 (p : Int × Int) : ixD (prI p) (.int 1) = .ok (.int p.2) := ix_tup1 _ _ _
def ndD (lo : Int) (o : Option (Int × Int)) : D := match o with
  | none => .non
  | some (F, L) => .tup [.int (lo + F), .int (lo + L)]
def S_no_dearer (f : List D → R D) : Prop := ∀ (a b : Int × Int) (lo hi : Int), a.2.natAbs ≤ 16 * Hg → b.2.natAbs ≤ 16 * Hg → f [prI a, prI b, .int lo, .int hi] = .ok (ndD lo (noDear (a.1 - b.1) (a.2 - b.2) (hi - lo)))
theorem no_dearer_sp (h_down : S_down (fn 1)) (h_up : S_up (fn 2)) : S_no_dearer (r_no_dearer fn) := fun a b lo hi ha hb => by
  unfold noDear
  by_cases h1 : 0 < a.2 - b.2
  · have d := h_down (-(a.1 - b.1)) (a.2 - b.2) (divH (by omega) (by omega))
    have n1 : ¬ a.2 - b.2 < 0 := by omega
    have n2 : ¬ (a.2 - b.2 = 0 ∧ 0 < a.1 - b.1) := by omega
    rw [if_neg n2, if_neg n1, if_pos h1]
    have k1 : b.2 < a.2 := by omega
    generalize (-(a.1 - b.1)).fdiv (a.2 - b.2) = q at *
    by_cases h2 : min (hi - lo) q < 0
    · rw [if_pos h2]
      simp [r_no_dearer_at, b_no_dearer, k1, d, h2, ndD]
    · rw [if_neg h2]
      simp [r_no_dearer_at, b_no_dearer, k1, d, h2, ndD]
  · by_cases h3 : a.2 - b.2 < 0
    · have d := h_up (a.1 - b.1) (-(a.2 - b.2)) (divH (by omega) (by omega))
      have n2 : ¬ (a.2 - b.2 = 0 ∧ 0 < a.1 - b.1) := by omega
      rw [if_neg n2, if_pos h3, if_neg h1]
      have k1 : ¬ b.2 < a.2 := by omega
      have k2 : a.2 < b.2 := by omega
      generalize -((-(a.1 - b.1)).fdiv (-(a.2 - b.2))) = q at *
      by_cases h2 : hi - lo < max 0 q
      · rw [if_pos h2]
        simp [r_no_dearer_at, b_no_dearer, k1, k2, h1, h3, d, h2, ndD]
      · rw [if_neg h2]
        simp [r_no_dearer_at, b_no_dearer, k1, k2, h1, h3, d, h2, ndD]
    · have e : a.2 - b.2 = 0 := by omega
      have k1 : ¬ b.2 < a.2 := by omega
      have k2 : ¬ a.2 < b.2 := by omega
      by_cases h4 : 0 < a.1 - b.1
      · have k3 : b.1 < a.1 := by omega
        rw [if_pos ⟨e, h4⟩]
        simp [r_no_dearer_at, b_no_dearer, k1, k2, h1, h3, k3, ndD]
      · have k3 : ¬ b.1 < a.1 := by omega
        rw [if_neg (fun h => h4 h.2), if_neg h1, if_neg h3]
        by_cases h2 : hi - lo < 0
        · rw [if_pos h2]
          have h2' : hi < lo := by omega
          simp [r_no_dearer_at, b_no_dearer, k1, k2, h1, h3, k3, h2, ndD]
        · rw [if_neg h2]
          simp [r_no_dearer_at, b_no_dearer, k1, k2, h1, h3, k3, h2, ndD]
def S_lower_line (f : List D → R D) : Prop := ∀ (a b : Int × Int) (lo hi : Int), a.2.natAbs ≤ 16 * Hg → b.2.natAbs ≤ 16 * Hg → hi - lo ≤ 16 * Hg → lo ≤ hi → f [prI a, prI b, .int lo, .int hi] = .ok (.lst ((lowerR a b lo hi).map Q.d))
theorem lower_line_sp (h_line_at : S_line_at (fn 7)) (h_no_dearer : S_no_dearer (fn 12)) : S_lower_line (r_lower_line fn) := fun a b lo hi ha hb hl h0 => by
  have n := h_no_dearer a b lo hi ha hb
  have ok := noDear_ok (a.1 - b.1) (a.2 - b.2) (hi - lo) (by omega)
  unfold lowerR
  cases e : noDear (a.1 - b.1) (a.2 - b.2) (hi - lo) with
  | none =>
    rw [e] at n
    simp only [ndD] at n
    simp [r_lower_line_at, b_lower_line, n, isNon, Q.d]
  | some FL =>
    obtain ⟨F, L⟩ := FL
    rw [e] at n ok
    obtain ⟨o1, o2, o3, _⟩ := ok
    have hg := Hg_pos
    simp only [ndD] at n
    have l1 := h_line_at a.1 a.2 lo (lo + F) (mulH (by omega) (by omega))
    have l2 := h_line_at b.1 b.2 lo (lo + L + 1) (mulH (by omega) (by omega))
    have l1 : fn 7 [prI a, .int lo, .int (lo + F)] = .ok (.int (a.1 + a.2 * F)) := by rw [show F = lo + F - lo by omega]; exact (by rw [show lo + (lo + F - lo) = lo + F by omega]; exact l1)
    have l2 : fn 7 [prI b, .int lo, .int (lo + L + 1)] = .ok (.int (b.1 + b.2 * (L + 1))) := by
      rw [show L + 1 = lo + L + 1 - lo by omega]; exact l2
    dsimp only
    by_cases h1 : lo < lo + F <;> by_cases h2 : lo + L < hi
    · rw [if_pos h1, if_pos h2]
      simp [r_lower_line_at, b_lower_line, n, isNon, l1, l2, decide_eq_true h1, decide_eq_true h2, Q.d]
    · rw [if_pos h1, if_neg h2]
      simp [r_lower_line_at, b_lower_line, n, isNon, l1, l2, decide_eq_true h1, decide_eq_false h2, Q.d]
    · rw [if_neg h1, if_pos h2]
      simp [r_lower_line_at, b_lower_line, n, isNon, l1, l2, decide_eq_false h1, decide_eq_true h2, Q.d]
    · rw [if_neg h1, if_neg h2]
      simp [r_lower_line_at, b_lower_line, n, isNon, l1, l2, decide_eq_false h1, decide_eq_false h2, Q.d]
def lnD (o : Option (Int × Int)) : D := match o with
  | none => .non
  | some p => prI p
@[simp] theorem lnD_none : lnD none = .non := rfl
@[simp] theorem lnD_some (p : Int × Int) : lnD (some p) = prI p := rfl
@[simp] theorem isNon_prI (p : Int × Int) : isNon (prI p) = false := rfl
theorem lnQ_skip {done rest : List Q} {x : Int} (h : ∀ q ∈ done, q.hi < x) : lnQ (done ++ rest) x = lnQ rest x := by
  rw [lnQ_app, lnQ_none (fun q hq c => by have := h q hq; omega)]; rfl
def S_lines_over (f : List D → R D) : Prop := ∀ (l : List Q) (xs : List Int) (N : Nat), Asc l → Bd N l → N ≤ Hg → (xs.Pairwise (· < ·)) → l.length ≤ 100000 → xs.length ≤ 1000000 → f [fD l, .lst (xs.map .int)] = .ok (.lst (xs.map fun x => lnD (lnQ l x)))
theorem lines_over_sp (h_line_at : S_line_at (fn 7)) : S_lines_over (r_lines_over fn) := fun l xs N ha hb hN hp hl hx => by
  rw [r_lines_over_at]
  have step : ∀ (n : Nat) (done rest : List Q) (T : D) (x : Int), l = done ++ rest → rest.length < n → (∀ q ∈ done, q.hi < x) →
      ∃ done' rest', l = done' ++ rest' ∧ (∀ q ∈ done', q.hi < x) ∧ (∀ q, rest'.head? = some q → ¬ q.hi < x) ∧
        whL (fun ρ => ev fn x_lines_over_0 ρ) (fun ρ => evCs fn fuel w_lines_over_0 ρ) n [some (fD l), some (.lst (xs.map .int)), some T, some (.int done.length), some (.int x), none] = .nx [some (fD l), some (.lst (xs.map .int)), some T, some (.int done'.length), some (.int x), none] := by
    intro n
    induction n with
    | zero => intro _ _ _ _ _ h; omega
    | succ n ih =>
      intro done rest T x e hr hd
      have le : l.length = done.length + rest.length := by rw [e]; simp
      have ln : biD .len [fD l] = .ok (.int l.length) := by rw [bi_len_tup, List.length_map]
      cases rest with
      | nil =>
        refine ⟨done, [], e, hd, (fun q h => by cases h), whL_end ?_⟩
        have : ¬ done.length < l.length := by simp at le; omega
        generalize fD l = DL at ln ⊢
        simp [x_lines_over_0, ln, this]
      | cons q r =>
        have hlt : done.length < l.length := by simp at le; omega
        have iq : ixD (fD l) (.int done.length) = .ok q.d := ix_tup (by omega) (by rw [e]; simp)
        by_cases h : q.hi < x
        · obtain ⟨d', r', e', h1, h2, k⟩ := ih (done ++ [q]) r T x (by rw [e]; simp) (by simp at hr; omega) (fun p hp => by
            rcases List.mem_append.mp hp with hp | hp
            · exact hd p hp
            · rw [List.mem_singleton.mp hp]; exact h)
          refine ⟨d', r', e', h1, h2, (whL_step (ρ' := [some (fD l), some (.lst (xs.map .int)), some T, some (.int (done ++ [q]).length), some (.int x), none]) ?_ ?_).trans k⟩
          · generalize fD l = DL at ln iq ⊢
            simp [x_lines_over_0, ln, hlt, iq, h]
          · simp [w_lines_over_0]
        · refine ⟨done, q :: r, e, hd, (fun p hp => by cases hp; exact h), whL_end ?_⟩
          generalize fD l = DL at ln iq ⊢
          simp [x_lines_over_0, ln, hlt, iq, h]
  have loop : ∀ (todo : List Int) (done rest : List Q) (T : List D), l = done ++ rest → T.length + todo.length ≤ 1000000 → (∀ q ∈ done, ∀ x ∈ todo, q.hi < x) → todo.Pairwise (· < ·) →
      ∃ A, forL (fun ρ x => thenO (bindT ρ (.one 4) x) ρ fun ρ' => evCs fn fuel w_lines_over_1 ρ') (todo.map .int) [some (fD l), some (.lst (xs.map .int)), some (.lst T), some (.int done.length), none, none] = .nx [some (fD l), some (.lst (xs.map .int)), some (.lst (T ++ todo.map fun x => lnD (lnQ l x))), A, none, none] := by
    intro todo
    induction todo with
    | nil => intro done rest T _ _ _ _; exact ⟨some (.int done.length), by simp⟩
    | cons x todo ih =>
      intro done rest T e hT hd hp
      rw [List.length_cons] at hT
      obtain ⟨p1, p2⟩ := List.pairwise_cons.mp hp
      have le : l.length = done.length + rest.length := by rw [e]; simp
      obtain ⟨done', rest', e', h1, h2, k⟩ := step fuel done rest (.lst T) x e (by unfold fuel; omega) (fun q hq => hd q hq x (by simp))
      have le' : l.length = done'.length + rest'.length := by rw [e']; simp
      have eq : lnQ l x = lnQ rest' x := by
        have := lnQ_skip (rest := rest') h1
        rw [← e'] at this
        exact this
      obtain ⟨A, kA⟩ := ih done' rest' (T ++ [lnD (lnQ l x)]) e' (by simp; omega) (fun q hq y hy => by have := h1 q hq; have := p1 y hy; omega) p2
      refine ⟨A, ?_⟩
      rw [List.map_cons, forL_nx (ρ' := [some (fD l), some (.lst (xs.map .int)), some (.lst (T ++ [lnD (lnQ l x)])), some (.int done'.length), none, none])]
      · rw [kA]; simp
      · rw [bind_one, thenO_ok]
        show evCs fn fuel w_lines_over_1 [some (fD l), some (.lst (xs.map .int)), some (.lst T), some (.int done.length), some (.int x), none] = _
        unfold w_lines_over_1
        refine go_while k ?_
        have ln : biD .len [fD l] = .ok (.int l.length) := by rw [bi_len_tup, List.length_map]
        have l0 : T.length < 16777216 := by omega
        rw [eq]
        cases rest' with
        | nil =>
          have hn : ¬ done'.length < l.length := by simp at le'; omega
          generalize fD l = DL at ln ⊢
          simp [ln, hn, l0, lnQ]
        | cons q r =>
          have hlt : done'.length < l.length := by simp at le'; omega
          have iq : ixD (fD l) (.int done'.length) = .ok q.d := ix_tup (by omega) (by rw [e']; simp)
          have hq := h2 q rfl
          have bq := hb q (by rw [e']; simp)
          have z1 := bq.st; have z2 := bq.lo; have z3 := bq.hi
          by_cases h : q.lo ≤ x
          · have la := line_q h_line_at q x (mulH (by omega) (by omega))
            have e2 : lnQ (q :: r) x = some (q.at x, q.st) := by rw [lnQ, if_pos ⟨h, by omega⟩]
            rw [e2]
            generalize fD l = DL at ln iq ⊢
            simp [ln, hlt, iq, h, la, l0, prI]
          · have e2 : lnQ (q :: r) x = none := by
              have al : Asc (q :: r) := (asc_app.mp (e' ▸ ha)).2.1
              obtain ⟨w1, w2, _⟩ := asc_cons.mp al
              refine lnQ_none fun p hp c => ?_
              rcases List.mem_cons.mp hp with e | hp
              · subst e; omega
              · have := w2 p hp; omega
            rw [e2]
            generalize fD l = DL at ln iq ⊢
            simp [ln, hlt, iq, h, l0]
  obtain ⟨A, k⟩ := loop xs [] l [] rfl (by simpa using hx) (fun _ h => nomatch h) hp
  refine out_of (go_own (z := .lst []) rfl (go_set (z := .int 0) rfl (go_for (xs := xs.map .int) rfl k (go_retM (by simp)))))
def cutsQ (A B : List Q) : List Int := sortU (cutsOf (A ++ B))
theorem cutsQ_srt (A B : List Q) : (cutsQ A B).Pairwise (· < ·) := sortU_srt _
theorem cutsQ_mem (A B : List Q) (c : Int) : c ∈ cutsQ A B ↔ c ∈ cutsOf (A ++ B) := sortU_mem c _
theorem insU_len (i : Int) : ∀ l : List Int, (insU i l).length ≤ l.length + 1
  | [] => by simp [insU]
  | j :: r => by
    rw [insU]
    split
    · simp
    · split
      · simp
      · have := insU_len i r; simp; omega
theorem sortU_len : ∀ l : List Int, (sortU l).length ≤ l.length
  | [] => by simp [sortU]
  | i :: r => by
    have := insU_len i (sortU r)
    have := sortU_len r
    rw [sortU]; simp; omega
theorem cutsQ_len (A B : List Q) : (cutsQ A B).length ≤ 2 * (A.length + B.length) := by
  have := sortU_len (cutsOf (A ++ B))
  rw [cutsOf_len, List.length_append] at this
  exact this
def sideD (A B : List Q) (s : Int × Int) : D := .tup [.int s.1, .int s.2, lnD (lnQ A s.1), lnD (lnQ B s.1)]
def sideS (A B : List Q) : List (Int × Int) := pairsC (cutsQ A B)
theorem zip_pairs (f g : Int → D) : ∀ cs : List Int, zip4L (cs.dropLast.map .int) ((cs.drop 1).map fun c => .int (c - 1)) (cs.dropLast.map f) (cs.dropLast.map g) = (pairsC cs).map fun s => .tup [.int s.1, .int s.2, f s.1, g s.1]
  | [] => rfl
  | [_] => rfl
  | a :: b :: r => by
    have ih := zip_pairs f g (b :: r)
    simp only [List.dropLast_cons_cons, List.map_cons, List.drop_succ_cons, List.drop_zero, zip4L, pairsC] at ih ⊢
    rw [ih]
theorem pw_dropLast {cs : List Int} (h : cs.Pairwise (· < ·)) : cs.dropLast.Pairwise (· < ·) := h.sublist (List.dropLast_sublist cs)
theorem slice_last (cs : List Int) : slD (.lst (cs.map .int)) none (some (-1)) = .ok (.lst (cs.dropLast.map .int)) := by
  have h : cutL (cs.map D.int) none (some (-1)) = (cs.map D.int).dropLast := by
    unfold cutL HT.sIx
    rw [List.dropLast_eq_take]
    cases cs with
    | nil => rfl
    | cons c r => simp; omega
  show R.ok (D.lst _) = _
  rw [h, List.map_dropLast]
def S_side_by_side (f : List D → R D) : Prop := ∀ (A B : List Q) (N : Nat), Asc A → Asc B → Bd N A → Bd N B → N ≤ Hg → A.length + B.length ≤ 2000 → f [fD A, fD B] = .ok (.lst ((sideS A B).map (sideD A B)))
theorem side_by_side_sp (h_lines_over : S_lines_over (fn 91)) : S_side_by_side (r_side_by_side fn) := fun A B N aA aB bA bB hN hl => by
  rw [r_side_by_side_at]
  have loop : ∀ (todo : List Q) (T : List Int), T.length + 2 * todo.length ≤ 100000 → forL (fun ρ x => thenO (bindT ρ (.one 3) x) ρ fun ρ' => evCs fn fuel w_side_by_side_0 ρ') (todo.map Q.d) [some (fD A), some (fD B), some (.lst (T.map .int)), none, none, none, none] =
      .nx [some (fD A), some (fD B), some (.lst ((T ++ cutsOf todo).map .int)), none, none, none, none] := by
    intro todo
    induction todo with
    | nil => intro T _; simp [cutsOf]
    | cons q r ih =>
      intro T hT
      rw [List.length_cons] at hT
      rw [List.map_cons, forL_nx (ρ' := [some (fD A), some (fD B), some (.lst ((T ++ [q.lo, q.hi + 1]).map .int)), none, none, none, none])]
      · rw [ih _ (by simp; omega)]
        simp [cutsOf]
      · have l1 : T.length < 16777216 := by omega
        have l2 : T.length + 1 < 16777216 := by omega
        simp [w_side_by_side_0, l1, l2]
  have k := loop (A ++ B) [] (by simp; omega)
  have len := cutsOf_len (A ++ B)
  rw [List.length_append] at len
  have cl := cutsQ_len A B
  have srt := cutsQ_srt A B
  have e : cutsQ A B = sortU (cutsOf (A ++ B)) := rfl
  have la := h_lines_over A (cutsQ A B).dropLast N aA bA hN (pw_dropLast srt) (by omega) (by rw [List.length_dropLast]; omega)
  have lb := h_lines_over B (cutsQ A B).dropLast N aB bB hN (pw_dropLast srt) (by omega) (by rw [List.length_dropLast]; omega)
  have sl := slice_last (cutsQ A B)
  have sf := slice_from D.int (cutsQ A B) 1
  have zp := zip_pairs (fun x => lnD (lnQ A x)) (fun x => lnD (lnQ B x)) (cutsQ A B)
  refine out_of (go_own (z := .lst []) rfl (go_for (xs := (A ++ B).map Q.d) ?_ k (go_own (z := .lst ((cutsQ A B).map .int)) ?_ (go_set (z := .lst ((cutsQ A B).dropLast.map .int)) ?_ (go_set (z := .lst (((cutsQ A B).drop 1).map fun c => .int (c - 1))) ?_ (go_ret ?_))))))
  · have : A.length + B.length ≤ 16777216 := by omega
    simp [this]
  · have : (cutsOf (A ++ B)).length < 4095 := by omega
    rw [e]
    simp [this, someR]
  · simp [-List.map_dropLast, sl]
  · generalize cutsQ A B = cs at *
    refine ev_comp_ok (xs := (cs.drop 1).map .int) ?_ (by rw [List.length_map, List.length_drop]; omega) (compL_mapT D.int (fun c => .int (c - 1)) fun c _ => ?_)
    · have sf : slD (.lst (cs.map .int)) (some 1) none = _ := sf
      simp [-List.map_drop, -List.drop_one, sf]
    · simp [x_side_by_side_0]
  · unfold sideS
    generalize cutsQ A B = cs at *
    simp [-List.map_dropLast, -List.map_drop, -List.drop_one, la, lb, zip4D, zp]
    intro a b _
    rfl
/-! ### the lesser of two forms, the greater one -/
def minO (a b : Option Int) : Option Int := match a, b with
  | some x, some y => some (min x y)
  | some x, none => some x
  | none, y => y
def maxO (a b : Option Int) : Option Int := match a, b with
  | some x, some y => some (max x y)
  | _, _ => none
def Q.neg (q : Q) : Q := ⟨q.lo, q.hi, -q.pr, -q.st⟩
theorem neg_mul (q : Q) : q.neg = q.mul (-1) := by simp [Q.neg, Q.mul]
theorem map_neg (l : List Q) : l.map Q.neg = l.map (Q.mul (-1)) := by
  apply List.map_congr_left
  intro q _
  exact neg_mul q
theorem neg_cost (l : List Q) (x : Int) : costQ (l.map Q.neg) x = (costQ l x).map (fun z => -z) := by
  rw [map_neg, mul_cost]
  cases costQ l x with
  | none => rfl
  | some z => simp
theorem neg_asc {l : List Q} (h : Asc l) : Asc (l.map Q.neg) := by rw [map_neg]; exact mul_asc h _
theorem neg_at (q : Q) (x : Int) : q.neg.at x = -q.at x := by
  show -q.pr + -q.st * (x - q.lo) = -(q.pr + q.st * (x - q.lo))
  rw [Int.neg_mul]; omega
theorem neg_bd {N : Nat} {q : Q} (h : q.bd N) : q.neg.bd N := by
  refine ⟨h.lo, h.hi, ?_, ?_, ?_⟩
  · have := h.pr; show (-q.pr).natAbs ≤ N; omega
  · have := h.st; show (-q.st).natAbs ≤ N; omega
  · have := h.en
    show (q.neg.at q.hi).natAbs ≤ N
    rw [neg_at]; omega
theorem negs_bd {N : Nat} {l : List Q} (h : Bd N l) : Bd N (l.map Q.neg) := fun p hp => by
  obtain ⟨q, hq, rfl⟩ := List.mem_map.mp hp
  exact neg_bd (h q hq)
def negP (p : Int × Int) : Int × Int := (-p.1, -p.2)
def leastG (A B : List Q) (s : Int × Int) : List Q := match lnQ A s.1, lnQ B s.1 with
  | some a, some b => lowerR a b s.1 s.2
  | some a, none => [⟨s.1, s.2, a.1, a.2⟩]
  | none, some b => [⟨s.1, s.2, b.1, b.2⟩]
  | none, none => []
def greatG (A B : List Q) (s : Int × Int) : List Q := match lnQ A s.1, lnQ B s.1 with
  | some a, some b => (lowerR (negP a) (negP b) s.1 s.2).map Q.neg
  | _, _ => []
def leastR (A B : List Q) : List Q := (sideS A B).flatMap (leastG A B)
def greatR (A B : List Q) : List Q := (sideS A B).flatMap (greatG A B)
theorem side_clean {A B : List Q} {s : Int × Int} (h : s ∈ sideS A B) : s.1 ≤ s.2 ∧ (∀ q ∈ A, (q.lo ≤ s.1 ∨ s.2 + 1 ≤ q.lo) ∧ (q.hi + 1 ≤ s.1 ∨ s.2 + 1 ≤ q.hi + 1)) ∧ ∀ q ∈ B, (q.lo ≤ s.1 ∨ s.2 + 1 ≤ q.lo) ∧ (q.hi + 1 ≤ s.1 ∨ s.2 + 1 ≤ q.hi + 1) := by
  have hp := cutsQ_srt A B
  have sub : ∀ {l : List Q}, (∀ q ∈ l, q ∈ A ++ B) → ∀ c ∈ cutsOf l, c ∈ cutsQ A B := fun {l} hl c hc => by
    obtain ⟨q, hq, hc⟩ := List.mem_flatMap.mp hc
    exact (cutsQ_mem A B c).mpr (List.mem_flatMap.mpr ⟨q, hl q hq, hc⟩)
  exact ⟨(pairs_in h hp).2.2, seg_clean hp h (sub fun q hq => List.mem_append_left _ hq), seg_clean hp h (sub fun q hq => List.mem_append_right _ hq)⟩
theorem side_none {A B : List Q} {x : Int} (h : ¬ ∃ s ∈ sideS A B, s.1 ≤ x ∧ x ≤ s.2) : costQ A x = none ∧ costQ B x = none := by
  have hp := cutsQ_srt A B
  have sub : ∀ {l : List Q}, (∀ q ∈ l, q ∈ A ++ B) → ∀ c ∈ cutsOf l, c ∈ cutsQ A B := fun {l} hl c hc => by
    obtain ⟨q, hq, hc⟩ := List.mem_flatMap.mp hc
    exact (cutsQ_mem A B c).mpr (List.mem_flatMap.mpr ⟨q, hl q hq, hc⟩)
  exact ⟨seg_none hp (sub fun q hq => List.mem_append_left _ hq) h, seg_none hp (sub fun q hq => List.mem_append_right _ hq) h⟩
theorem sideS_asc (A B : List Q) : (sideS A B).Pairwise fun s t => s.2 < t.1 := pairs_asc (cutsQ_srt A B)
theorem sideS_len (A B : List Q) : (sideS A B).length ≤ 2 * (A.length + B.length) := by
  have := cutsQ_len A B
  unfold sideS
  rw [pairs_len]; omega
theorem one_seg (s : Int × Int) (p : Int × Int) (x : Int) : costQ [⟨s.1, s.2, p.1, p.2⟩] x = if s.1 ≤ x ∧ x ≤ s.2 then some (p.1 + p.2 * (x - s.1)) else none := by
  simp only [costQ, Q.at]
theorem leastG_ok {A B : List Q} {s : Int × Int} (h : s ∈ sideS A B) : Asc (leastG A B s) ∧ (∀ q ∈ leastG A B s, s.1 ≤ q.lo ∧ q.hi ≤ s.2) ∧ (leastG A B s).length ≤ 3 ∧ (∀ N, Bd N A → Bd N B → Bd N (leastG A B s)) ∧
    ∀ x, costQ (leastG A B s) x = if s.1 ≤ x ∧ x ≤ s.2 then minO (costQ A x) (costQ B x) else none := by
  obtain ⟨h1, cA, cB⟩ := side_clean h
  have kA := ln_cost cA
  have kB := ln_cost cB
  have bA : ∀ {N z}, Bd N A → lnQ A s.1 = some z → Q.bd N ⟨s.1, s.2, z.1, z.2⟩ := fun hb e => ln_bd hb cA h1 e
  have bB : ∀ {N z}, Bd N B → lnQ B s.1 = some z → Q.bd N ⟨s.1, s.2, z.1, z.2⟩ := fun hb e => ln_bd hb cB h1 e
  unfold leastG
  cases eA : lnQ A s.1 with
  | none =>
    rw [eA] at kA
    cases eB : lnQ B s.1 with
    | none =>
      rw [eB] at kB
      refine ⟨Asc.nil, (fun _ h => nomatch h), by simp, fun _ _ _ => Bd.nil, fun x => ?_⟩
      show costQ ([] : List Q) x = _
      split
      · rename_i c; rw [kA x c.1 c.2, kB x c.1 c.2]; rfl
      · rfl
    | some b =>
      rw [eB] at kB
      refine ⟨Asc.one h1, (fun q hq => by rw [List.mem_singleton.mp hq]; exact ⟨Int.le_refl _, Int.le_refl _⟩), by simp, fun N _ h2 => bd_cons.mpr ⟨bB h2 eB, Bd.nil⟩, fun x => ?_⟩
      show costQ [⟨s.1, s.2, b.1, b.2⟩] x = _
      rw [one_seg]
      split
      · rename_i c; rw [kA x c.1 c.2, kB x c.1 c.2]; rfl
      · rfl
  | some a =>
    rw [eA] at kA
    cases eB : lnQ B s.1 with
    | none =>
      rw [eB] at kB
      refine ⟨Asc.one h1, (fun q hq => by rw [List.mem_singleton.mp hq]; exact ⟨Int.le_refl _, Int.le_refl _⟩), by simp, fun N h2 _ => bd_cons.mpr ⟨bA h2 eA, Bd.nil⟩, fun x => ?_⟩
      show costQ [⟨s.1, s.2, a.1, a.2⟩] x = _
      rw [one_seg]
      split
      · rename_i c; rw [kA x c.1 c.2, kB x c.1 c.2]; rfl
      · rfl
    | some b =>
      rw [eB] at kB
      obtain ⟨o1, o2, o3, o4, o5⟩ := lower_ok a b s.1 s.2 h1
      refine ⟨o1, o2, o3, fun N h2 h3 => o4 N (bA h2 eA) (bB h3 eB), fun x => ?_⟩
      show costQ (lowerR a b s.1 s.2) x = _
      rw [o5]
      split
      · rename_i c; rw [kA x c.1 c.2, kB x c.1 c.2]; rfl
      · rfl
theorem greatG_ok {A B : List Q} {s : Int × Int} (h : s ∈ sideS A B) : Asc (greatG A B s) ∧ (∀ q ∈ greatG A B s, s.1 ≤ q.lo ∧ q.hi ≤ s.2) ∧ (greatG A B s).length ≤ 3 ∧ (∀ N, Bd N A → Bd N B → Bd N (greatG A B s)) ∧
    ∀ x, costQ (greatG A B s) x = if s.1 ≤ x ∧ x ≤ s.2 then maxO (costQ A x) (costQ B x) else none := by
  obtain ⟨h1, cA, cB⟩ := side_clean h
  have kA := ln_cost cA
  have kB := ln_cost cB
  have bA : ∀ {N z}, Bd N A → lnQ A s.1 = some z → Q.bd N ⟨s.1, s.2, z.1, z.2⟩ := fun hb e => ln_bd hb cA h1 e
  have bB : ∀ {N z}, Bd N B → lnQ B s.1 = some z → Q.bd N ⟨s.1, s.2, z.1, z.2⟩ := fun hb e => ln_bd hb cB h1 e
  have emp : (∀ x, s.1 ≤ x → x ≤ s.2 → maxO (costQ A x) (costQ B x) = none) → Asc ([] : List Q) ∧ (∀ q ∈ ([] : List Q), s.1 ≤ q.lo ∧ q.hi ≤ s.2) ∧ ([] : List Q).length ≤ 3 ∧ (∀ N, Bd N A → Bd N B → Bd N []) ∧ ∀ x, costQ [] x = if s.1 ≤ x ∧ x ≤ s.2 then maxO (costQ A x) (costQ B x) else none := fun k =>
    ⟨Asc.nil, (fun _ h => nomatch h), by simp, fun _ _ _ => Bd.nil, fun x => by
      split
      · rename_i c; rw [k x c.1 c.2]; rfl
      · rfl⟩
  unfold greatG
  cases eA : lnQ A s.1 with
  | none =>
    rw [eA] at kA
    exact emp fun x c1 c2 => by rw [kA x c1 c2]; rfl
  | some a =>
    rw [eA] at kA
    cases eB : lnQ B s.1 with
    | none =>
      rw [eB] at kB
      exact emp fun x c1 c2 => by rw [kA x c1 c2, kB x c1 c2]; rfl
    | some b =>
      rw [eB] at kB
      obtain ⟨o1, o2, o3, o4, o5⟩ := lower_ok (negP a) (negP b) s.1 s.2 h1
      refine ⟨neg_asc o1, fun q hq => ?_, by rw [List.length_map]; exact o3, fun N h2 h3 => negs_bd (o4 N (neg_bd (bA h2 eA)) (neg_bd (bB h3 eB))), fun x => ?_⟩
      · obtain ⟨p, hp, rfl⟩ := List.mem_map.mp hq
        exact o2 p hp
      · show costQ ((lowerR (negP a) (negP b) s.1 s.2).map Q.neg) x = _
        rw [neg_cost, o5]
        split
        · rename_i c
          rw [kA x c.1 c.2, kB x c.1 c.2]
          show some (-(min (-a.1 + -a.2 * (x - s.1)) (-b.1 + -b.2 * (x - s.1)))) = some (max (a.1 + a.2 * (x - s.1)) (b.1 + b.2 * (x - s.1)))
          rw [Int.neg_mul, Int.neg_mul]
          congr 1; omega
        · rfl
theorem flat_len3 {g : Int × Int → List Q} : ∀ {S : List (Int × Int)}, (∀ s ∈ S, (g s).length ≤ 3) → (S.flatMap g).length ≤ 3 * S.length
  | [], _ => by simp
  | s :: S, h => by
    have h1 := h s (by simp)
    have h2 := flat_len3 (S := S) fun t ht => h t (by simp [ht])
    rw [List.flatMap_cons, List.length_append, List.length_cons]; omega
theorem leastR_ok (A B : List Q) : Asc (leastR A B) ∧ (∀ x, costQ (leastR A B) x = minO (costQ A x) (costQ B x)) ∧ (∀ N, Bd N A → Bd N B → Bd N (leastR A B)) ∧ (leastR A B).length ≤ 6 * (A.length + B.length) := by
  refine ⟨segs_asc (sideS_asc A B) (fun s hs => (leastG_ok hs).1) (fun s hs => (leastG_ok hs).2.1), fun x => ?_, fun N h1 h2 q hq => ?_, ?_⟩
  · obtain ⟨k1, k2⟩ := segs_cost (g := leastG A B) (o := fun x => minO (costQ A x) (costQ B x)) x (S := sideS A B) fun s hs => (leastG_ok hs).2.2.2.2 x
    by_cases h : ∃ s ∈ sideS A B, s.1 ≤ x ∧ x ≤ s.2
    · exact k1 h
    · obtain ⟨n1, n2⟩ := side_none h
      rw [n1, n2]
      exact k2 h
  · obtain ⟨s, hs, hq⟩ := List.mem_flatMap.mp hq
    exact (leastG_ok hs).2.2.2.1 N h1 h2 q hq
  · have := flat_len3 (S := sideS A B) (g := leastG A B) fun s hs => (leastG_ok hs).2.2.1
    have := sideS_len A B
    unfold leastR
    omega
theorem greatR_ok (A B : List Q) : Asc (greatR A B) ∧ (∀ x, costQ (greatR A B) x = maxO (costQ A x) (costQ B x)) ∧ (∀ N, Bd N A → Bd N B → Bd N (greatR A B)) ∧ (greatR A B).length ≤ 6 * (A.length + B.length) := by
  refine ⟨segs_asc (sideS_asc A B) (fun s hs => (greatG_ok hs).1) (fun s hs => (greatG_ok hs).2.1), fun x => ?_, fun N h1 h2 q hq => ?_, ?_⟩
  · obtain ⟨k1, k2⟩ := segs_cost (g := greatG A B) (o := fun x => maxO (costQ A x) (costQ B x)) x (S := sideS A B) fun s hs => (greatG_ok hs).2.2.2.2 x
    by_cases h : ∃ s ∈ sideS A B, s.1 ≤ x ∧ x ≤ s.2
    · exact k1 h
    · obtain ⟨n1, n2⟩ := side_none h
      rw [n1, n2]
      exact k2 h
  · obtain ⟨s, hs, hq⟩ := List.mem_flatMap.mp hq
    exact (greatG_ok hs).2.2.2.1 N h1 h2 q hq
  · have := flat_len3 (S := sideS A B) (g := greatG A B) fun s hs => (greatG_ok hs).2.2.1
    have := sideS_len A B
    unfold greatR
    omega
end Den
namespace Den
open PySem PySem.Spec PyProof.Rows L2
variable {fn : Nat → List D → R D}
theorem nonN : isNon D.non = true := rfl
theorem side_bd {A B : List Q} {s : Int × Int} {N : Nat} (h : s ∈ sideS A B) (bA : Bd N A) (bB : Bd N B) : s.1.natAbs ≤ N + 1 ∧ s.2.natAbs ≤ N + 2 := by
  have hp := cutsQ_srt A B
  obtain ⟨h1, h2, _⟩ := pairs_in h hp
  have c : ∀ {c : Int}, c ∈ cutsQ A B → c.natAbs ≤ N + 1 := fun {c} hc => by
    obtain ⟨q, hq, hc⟩ := List.mem_flatMap.mp ((cutsQ_mem A B c).mp hc)
    have bq : q.bd N := by
      rcases List.mem_append.mp hq with h | h
      · exact bA q h
      · exact bB q h
    have z1 := bq.lo; have z2 := bq.hi
    simp at hc
    omega
  have k1 := c h1
  have k2 := c h2
  exact ⟨k1, by omega⟩
theorem ln_st {l : List Q} {x : Int} {z : Int × Int} {N : Nat} (hb : Bd N l) (e : lnQ l x = some z) : z.2.natAbs ≤ N := by
  obtain ⟨q, hq, _, _, rfl⟩ := lnQ_some e
  exact (hb q hq).st
theorem side_many (ρ : Env) (i j k m : Nat) (A B : List Q) (s : Int × Int) : bindT ρ (.many [i, j, k, m]) (sideD A B s) = .ok (setV (setV (setV (setV ρ i (.int s.1)) j (.int s.2)) k (lnD (lnQ A s.1))) m (lnD (lnQ B s.1))) := bind_many _ _ _ rfl
def S_least (f : List D → R D) : Prop := ∀ (A B : List Q) (N : Nat), Asc A → Asc B → Bd N A → Bd N B → N ≤ Hg → A.length + B.length ≤ 2000 → f [fD A, fD B] = .ok (fD (laidQ (leastR A B)))
theorem least_sp (h_lower_line : S_lower_line (fn 18)) (h_laid : S_laid (fn 42)) (h_side_by_side : S_side_by_side (fn 306)) : S_least (r_least fn) := fun A B N aA aB bA bB hN hl => by
  have hg := Hg_pos
  rw [r_least_at]
  have e1 := h_side_by_side A B N aA aB bA bB hN hl
  obtain ⟨o1, o2, o3, o4⟩ := leastR_ok A B
  have e2 := h_laid (.lst ((leastR A B).map Q.d)) (leastR A B) N rfl o1 (o3 N bA bB) hN (by omega)
  have sl := sideS_len A B
  have loop : ∀ (todo : List (Int × Int)) (T : List Q), (∀ s ∈ todo, s ∈ sideS A B) → T.length + 3 * todo.length ≤ 100000 → forL (fun ρ x => thenO (bindT ρ (.many [3, 4, 5, 6]) x) ρ fun ρ' => evCs fn fuel w_least_0 ρ') (todo.map (sideD A B)) [some (fD A), some (fD B), some (.lst (T.map Q.d)), none, none, none, none] =
      .nx [some (fD A), some (fD B), some (.lst ((T ++ todo.flatMap (leastG A B)).map Q.d)), none, none, none, none] := by
    intro todo
    induction todo with
    | nil => intro T _ _; simp
    | cons s r ih =>
      intro T hs hT
      rw [List.length_cons] at hT
      have hm := hs s (by simp)
      obtain ⟨g1, g2, g3, g4, _⟩ := leastG_ok hm
      obtain ⟨b1, b2⟩ := side_bd hm bA bB
      obtain ⟨le, _, _⟩ := side_clean hm
      have k := ih (T ++ leastG A B s) (fun t ht => hs t (by simp [ht])) (by rw [List.length_append]; omega)
      rw [List.map_cons, forL_nx (ρ' := [some (fD A), some (fD B), some (.lst ((T ++ leastG A B s).map Q.d)), none, none, none, none])]
      · rw [k]; simp
      · rw [side_many, thenO_ok]
        have l1 : T.length < 16777216 := by omega
        unfold leastG at g3 ⊢
        cases eA : lnQ A s.1 with
        | none =>
          cases eB : lnQ B s.1 with
          | none => simp [w_least_0, nonN]
          | some b => simp [w_least_0, nonN, l1, Q.d]
        | some a =>
          cases eB : lnQ B s.1 with
          | none => simp [w_least_0, nonN, l1, Q.d]
          | some b =>
            have z1 := ln_st bA eA
            have z2 := ln_st bB eB
            rw [eA, eB] at g3
            have g3 : (lowerR a b s.1 s.2).length ≤ 3 := g3
            have ll := h_lower_line a b s.1 s.2 (by omega) (by omega) (by omega) le
            have l2 : T.length + (lowerR a b s.1 s.2).length ≤ 16777216 := by omega
            dsimp only
            generalize lowerR a b s.1 s.2 = L at *
            simp [w_least_0, ll, l2, itemsL]
  have k := loop (sideS A B) [] (fun _ h => h) (by simp; omega)
  refine out_of (go_own (z := .lst []) rfl (go_for (xs := (sideS A B).map (sideD A B)) ?_ k ?_))
  · simp [e1, items]
  · rw [evCs_shr]
    have : evCs fn fuel (.cons (.ret (.call 42 (.cons (.var 2) .nil))) .nil) [some (fD A), some (fD B), some (.lst ((([] : List Q) ++ (sideS A B).flatMap (leastG A B)).map Q.d)), none, none, none, none] = .ret (fD (laidQ (leastR A B))) := go_ret (by
      rw [List.nil_append]
      show ev fn _ [some (fD A), some (fD B), some (.lst ((leastR A B).map Q.d)), none, none, none, none] = _
      simp [e2])
    rw [this]; rfl
def S_greatest (f : List D → R D) : Prop := ∀ (A B : List Q) (N : Nat), Asc A → Asc B → Bd N A → Bd N B → N ≤ Hg → A.length + B.length ≤ 2000 → f [fD A, fD B] = .ok (fD (laidQ (greatR A B)))
theorem greatest_sp (h_lower_line : S_lower_line (fn 18)) (h_laid : S_laid (fn 42)) (h_side_by_side : S_side_by_side (fn 306)) : S_greatest (r_greatest fn) := fun A B N aA aB bA bB hN hl => by
  have hg := Hg_pos
  rw [r_greatest_at]
  have e1 := h_side_by_side A B N aA aB bA bB hN hl
  obtain ⟨o1, o2, o3, o4⟩ := greatR_ok A B
  have e2 := h_laid (.lst ((greatR A B).map Q.d)) (greatR A B) N rfl o1 (o3 N bA bB) hN (by omega)
  have sl := sideS_len A B
  have inner : ∀ (todo : List Q) (T : List Q) (x y z w : Option D), T.length + todo.length ≤ 100000 → forL (fun ρ x => thenO (bindT ρ (.many [7, 8, 9, 10]) x) ρ fun ρ' => evCs fn fuel w_greatest_0 ρ') (todo.map Q.d) [some (fD A), some (fD B), some (.lst (T.map Q.d)), x, y, z, w, none, none, none, none] =
      .nx [some (fD A), some (fD B), some (.lst ((T ++ todo.map Q.neg).map Q.d)), x, y, z, w, none, none, none, none] := by
    intro todo
    induction todo with
    | nil => intro T _ _ _ _ _; simp
    | cons q r ih =>
      intro T x y z w hT
      rw [List.length_cons] at hT
      have l1 : T.length < 16777216 := by omega
      rw [List.map_cons, forL_nx (ρ' := [some (fD A), some (fD B), some (.lst ((T ++ [q.neg]).map Q.d)), x, y, z, w, none, none, none, none])]
      · rw [ih _ _ _ _ _ (by simp; omega)]; simp
      · rw [q_many, thenO_ok]
        simp [w_greatest_0, l1, Q.d, Q.neg]
  have loop : ∀ (todo : List (Int × Int)) (T : List Q), (∀ s ∈ todo, s ∈ sideS A B) → T.length + 3 * todo.length ≤ 90000 → forL (fun ρ x => thenO (bindT ρ (.many [3, 4, 5, 6]) x) ρ fun ρ' => evCs fn fuel w_greatest_1 ρ') (todo.map (sideD A B)) [some (fD A), some (fD B), some (.lst (T.map Q.d)), none, none, none, none, none, none, none, none] =
      .nx [some (fD A), some (fD B), some (.lst ((T ++ todo.flatMap (greatG A B)).map Q.d)), none, none, none, none, none, none, none, none] := by
    intro todo
    induction todo with
    | nil => intro T _ _; simp
    | cons s r ih =>
      intro T hs hT
      rw [List.length_cons] at hT
      have hm := hs s (by simp)
      obtain ⟨g1, g2, g3, g4, _⟩ := greatG_ok hm
      obtain ⟨b1, b2⟩ := side_bd hm bA bB
      obtain ⟨le, _, _⟩ := side_clean hm
      have k := ih (T ++ greatG A B s) (fun t ht => hs t (by simp [ht])) (by rw [List.length_append]; omega)
      rw [List.map_cons, forL_nx (ρ' := [some (fD A), some (fD B), some (.lst ((T ++ greatG A B s).map Q.d)), none, none, none, none, none, none, none, none])]
      · rw [k]; simp
      · rw [side_many, thenO_ok]
        unfold greatG at g3 ⊢
        cases eA : lnQ A s.1 with
        | none =>
          cases eB : lnQ B s.1 with
          | none => simp [w_greatest_1, nonN]
          | some b => simp [w_greatest_1, nonN]
        | some a =>
          cases eB : lnQ B s.1 with
          | none => simp [w_greatest_1, nonN]
          | some b =>
            have z1 := ln_st bA eA
            have z2 := ln_st bB eB
            rw [eA, eB] at g3
            have g3 : (lowerR (negP a) (negP b) s.1 s.2).length ≤ 3 := by simpa using g3
            have ll := h_lower_line (negP a) (negP b) s.1 s.2 (by show (-a.2).natAbs ≤ _; omega) (by show (-b.2).natAbs ≤ _; omega) (by omega) le
            have ll : fn 18 [.tup [.int (-a.1), .int (-a.2)], .tup [.int (-b.1), .int (-b.2)], .int s.1, .int s.2] = _ := ll
            dsimp only
            generalize lowerR (negP a) (negP b) s.1 s.2 = L at *
            have ii := inner L T (some (.int s.1)) (some (.int s.2)) (some (prI a)) (some (prI b)) (by omega)
            have fr : evC fn fuel (.for_ (.seq (.call 18 (.cons (.tup (.cons (.neg (.ix (.var 5) (.cst (.int 0)))) (.cons (.neg (.ix (.var 5) (.cst (.int 1)))) .nil))) (.cons (.tup (.cons (.neg (.ix (.var 6) (.cst (.int 0)))) (.cons (.neg (.ix (.var 6) (.cst (.int 1)))) .nil))) (.cons (.var 3) (.cons (.var 4) .nil)))))) (.many [7, 8, 9, 10]) w_greatest_0)
                [some (fD A), some (fD B), some (.lst (T.map Q.d)), some (.int s.1), some (.int s.2), some (prI a), some (prI b), none, none, none, none] = .nx [some (fD A), some (fD B), some (.lst ((T ++ L.map Q.neg).map Q.d)), some (.int s.1), some (.int s.2), some (prI a), some (prI b), none, none, none, none] := by
              rw [evC_for, evi_seq]
              have : ev fn (.call 18 (.cons (.tup (.cons (.neg (.ix (.var 5) (.cst (.int 0)))) (.cons (.neg (.ix (.var 5) (.cst (.int 1)))) .nil))) (.cons (.tup (.cons (.neg (.ix (.var 6) (.cst (.int 0)))) (.cons (.neg (.ix (.var 6) (.cst (.int 1)))) .nil))) (.cons (.var 3) (.cons (.var 4) .nil)))))
                [some (fD A), some (fD B), some (.lst (T.map Q.d)), some (.int s.1), some (.int s.2), some (prI a), some (prI b), none, none, none, none] = .ok (.lst (L.map Q.d)) := by simp [ll]
              rw [this]
              exact ii
            simp [w_greatest_1, fr]
  have k := loop (sideS A B) [] (fun _ h => h) (by simp; omega)
  refine out_of (go_own (z := .lst []) rfl (go_for (xs := (sideS A B).map (sideD A B)) ?_ k ?_))
  · simp [e1, items]
  · rw [evCs_shr]
    have : evCs fn fuel (.cons (.ret (.call 42 (.cons (.var 2) .nil))) .nil) [some (fD A), some (fD B), some (.lst ((([] : List Q) ++ (sideS A B).flatMap (greatG A B)).map Q.d)), none, none, none, none, none, none, none, none] = .ret (fD (laidQ (greatR A B))) := go_ret (by
      rw [List.nil_append]
      show ev fn _ [some (fD A), some (fD B), some (.lst ((greatR A B).map Q.d)), none, none, none, none, none, none, none, none] = _
      simp [e2])
    rw [this]; rfl
end Den
namespace Den
/-! ### what is laid has no more rows than were told, and no form of the same costs has fewer -/
theorem layQ_len (told : List Q) (b : Q) : (layQ told b).length ≤ told.length + 1 := by
  rcases List.eq_nil_or_concat told with e | ⟨r, a, e⟩
  · subst e; simp [layQ_nil]
  · rw [List.concat_eq_append] at e
    subst e
    rw [layQ_snoc]
    have := putQ_len r a b
    simp; omega
theorem laidQ_le (rows : List Q) : (laidQ rows).length ≤ rows.length := by
  have : ∀ (rows told : List Q), (rows.foldl layQ told).length ≤ told.length + rows.length := by
    intro rows
    induction rows with
    | nil => intro told; simp
    | cons b r ih => intro told; have := ih (layQ told b); have := layQ_len told b; simp at *; omega
  simpa [laidQ] using this rows []
theorem can_len {l r : List Q} (hl : Can l) (hr : Asc r) (h : ∀ x, costQ l x = costQ r x) : l.length ≤ r.length := by
  have : l = laidQ r := can_uniq hl (laidQ_can hr) fun x => by rw [laidQ_cost hr, h]
  rw [this]; exact laidQ_le r
/-! ### words in which no two letters turn five times -/
def chn : List Nat → Prop
  | a :: b :: r => a ≠ b ∧ chn (b :: r)
  | _ => True
theorem chn_tail {a : Nat} {r : List Nat} (h : chn (a :: r)) : chn r := by
  cases r with
  | nil => trivial
  | cons b r => exact h.2
theorem chn_append : ∀ {u v : List Nat}, chn (u ++ v) → chn u ∧ chn v
  | [], v, h => ⟨trivial, h⟩
  | [a], v, h => ⟨trivial, chn_tail h⟩
  | a :: b :: r, v, h => ⟨⟨h.1, (chn_append (u := b :: r) h.2).1⟩, (chn_append (u := b :: r) h.2).2⟩
theorem chn_glue {a : Nat} {r : List Nat} (h2 : chn (a :: r)) : ∀ {u : List Nat}, chn (u ++ [a]) → chn (u ++ a :: r)
  | [], _ => h2
  | [b], h => ⟨h.1, h2⟩
  | b :: c :: u, h => ⟨h.1, chn_glue h2 (u := c :: u) h.2⟩
theorem chn_join {u v : List Nat} (hu : chn u) (hv : chn v) : ∃ w, w.Sublist (u ++ v) ∧ chn w ∧ u.length + v.length ≤ w.length + 1 := by
  rcases List.eq_nil_or_concat u with e | ⟨u', a, e⟩
  · subst e; exact ⟨v, List.Sublist.refl _, hv, by simp⟩
  · rw [List.concat_eq_append] at e
    subst e
    cases v with
    | nil => exact ⟨u' ++ [a], by simp, hu, by simp⟩
    | cons b r =>
      by_cases h : a = b
      · subst h
        refine ⟨u' ++ a :: r, ?_, chn_glue hv hu, by simp; omega⟩
        have : u' ++ [a] ++ a :: r = u' ++ (a :: a :: r) := by simp
        rw [this]
        exact List.Sublist.append_left (List.Sublist.cons _ (List.Sublist.refl _)) u'
      · refine ⟨u' ++ [a] ++ b :: r, List.Sublist.refl _, ?_, by simp; omega⟩
        have := chn_glue (a := a) (r := b :: r) ⟨h, hv⟩ hu
        simpa using this
/-- no a b a b a -/
def noF (s : List Nat) : Prop := ∀ a b, a ≠ b → ¬ [a, b, a, b, a].Sublist s
theorem noF_sub {s t : List Nat} (h : noF s) (k : t.Sublist s) : noF t := fun a b hab hs => h a b hab (hs.trans k)
theorem chn_filter (x : Nat) : ∀ {s : List Nat}, chn s → (∀ a, a ≠ x → ¬ [a, x, a].Sublist s) → chn (s.filter (· ≠ x))
  | [], _, _ => trivial
  | [a], _, _ => by by_cases h : a = x <;> simp [h, chn]
  | a :: b :: r, h, k => by
    have ih := chn_filter x (s := b :: r) h.2 fun c hc hs => k c hc (List.Sublist.cons _ hs)
    by_cases ha : a = x
    · rw [List.filter_cons_of_neg (by simp [ha])]; exact ih
    · rw [List.filter_cons_of_pos (by simp [ha])]
      by_cases hb : b = x
      · rw [List.filter_cons_of_neg (by simp [hb])] at ih ⊢
        cases r with
        | nil => trivial
        | cons d r =>
          have hd : d ≠ x := fun e => h.2.1 (hb.trans e.symm)
          rw [List.filter_cons_of_pos (by simp [hd])] at ih ⊢
          refine ⟨fun e => ?_, ih⟩
          subst e; subst hb
          exact k a ha (List.Sublist.cons_cons _ (List.Sublist.cons_cons _ (List.Sublist.cons_cons _ (List.nil_sublist _))))
      · rw [List.filter_cons_of_pos (by simp [hb])] at ih ⊢
        exact ⟨h.1, ih⟩
theorem split_first {x : Nat} : ∀ {s : List Nat}, x ∈ s → ∃ p q, s = p ++ x :: q ∧ x ∉ p
  | a :: r, h => by
    by_cases e : a = x
    · exact ⟨[], r, by rw [e]; rfl, by simp⟩
    · obtain ⟨p, q, h1, h2⟩ := split_first (s := r) ((List.mem_cons.mp h).resolve_left fun k => e k.symm)
      exact ⟨a :: p, q, by rw [h1]; rfl, by simp [h2]; exact fun k => e k.symm⟩
theorem split_last {x : Nat} {s : List Nat} (h : x ∈ s) : ∃ p q, s = p ++ x :: q ∧ x ∉ q := by
  obtain ⟨p, q, h1, h2⟩ := split_first (x := x) (s := s.reverse) (by simpa using h)
  exact ⟨q.reverse, p.reverse, by have := congrArg List.reverse h1; simpa using this, by simpa using h2⟩
theorem filter_ne {x : Nat} {p : List Nat} (h : x ∉ p) : p.filter (· ≠ x) = p := List.filter_eq_self.mpr fun a ha => by
  have : a ≠ x := fun e => h (e ▸ ha)
  simp [this]
theorem chn_drop (x : Nat) {s : List Nat} (h : chn s) (hf : noF s) : ∃ w, w.Sublist (s.filter (· ≠ x)) ∧ chn w ∧ (s.filter (· ≠ x)).length ≤ w.length + 2 := by
  by_cases hx : x ∈ s
  · obtain ⟨p, q, e, hp⟩ := split_first hx
    subst e
    obtain ⟨cp, cq⟩ := chn_append h
    have cq := chn_tail cq
    have fp : (p ++ x :: q).filter (· ≠ x) = p ++ q.filter (· ≠ x) := by
      rw [List.filter_append, filter_ne hp, List.filter_cons_of_neg (by simp)]
    rw [fp]
    by_cases hq : x ∈ q
    · obtain ⟨m, t, e, ht⟩ := split_last hq
      subst e
      obtain ⟨cm, ct⟩ := chn_append cq
      have ct := chn_tail ct
      have fq : (m ++ x :: t).filter (· ≠ x) = m.filter (· ≠ x) ++ t := by
        rw [List.filter_append, List.filter_cons_of_neg (by simp), filter_ne ht]
      rw [fq]
      have cm2 := chn_filter x cm fun a ha hs => hf x a (fun e => ha e.symm) (by
        refine List.Sublist.trans ?_ (List.sublist_append_right p _)
        refine List.Sublist.cons_cons _ ?_
        exact List.Sublist.append (l₁ := [a, x, a]) (r₁ := [x]) hs (List.Sublist.cons_cons _ (List.nil_sublist _)))
      obtain ⟨w, w1, w2, w3⟩ := chn_join cm2 ct
      obtain ⟨v, v1, v2, v3⟩ := chn_join cp w2
      exact ⟨v, v1.trans (List.Sublist.append_left w1 p), v2, by simp only [List.length_append] at *; omega⟩
    · rw [filter_ne hq]
      obtain ⟨v, v1, v2, v3⟩ := chn_join cp cq
      exact ⟨v, v1, v2, by simp only [List.length_append] at *; omega⟩
  · rw [filter_ne hx]
    exact ⟨s, List.Sublist.refl _, h, by omega⟩
/-- the least count -/
theorem min_count : ∀ (n : Nat) (s al : List Nat), al.length = n → 0 < n → al.Nodup → (∀ a ∈ s, a ∈ al) → ∃ x ∈ al, n * s.count x ≤ s.length := by
  intro n s al hn h0 hd hs
  have hsum : ∀ (al s : List Nat), al.Nodup → (al.map s.count).sum ≤ s.length := by
    intro al
    induction al with
    | nil => intro s _; simp
    | cons a r ih =>
      intro s hd
      obtain ⟨h1, h2⟩ := List.nodup_cons.mp hd
      have k := ih (s.filter (· ≠ a)) h2
      have e : r.map (s.filter (· ≠ a)).count = r.map s.count := List.map_congr_left fun b hb => by
        rw [List.count_filter]
        have : b ≠ a := fun e => h1 (e ▸ hb)
        simp [this]
      rw [e] at k
      have : s.length = s.count a + (s.filter (· ≠ a)).length := by
        clear k e ih
        induction s with
        | nil => rfl
        | cons b t ih =>
          by_cases hb : b = a
          · subst hb; rw [List.count_cons_self, List.filter_cons_of_neg (by simp), List.length_cons]; omega
          · rw [List.count_cons_of_ne hb, List.filter_cons_of_pos (by simp [hb]), List.length_cons, List.length_cons]; omega
      simp only [List.map_cons, List.sum_cons]
      omega
  apply Classical.byContradiction
  intro hc
  have hlt : ∀ x ∈ al, s.length < n * s.count x := fun x hx => Nat.lt_of_not_le fun k => hc ⟨x, hx, k⟩
  have : ∀ l : List Nat, (∀ x ∈ l, s.length < n * s.count x) → l.length * s.length + l.length ≤ n * (l.map s.count).sum := by
    intro l
    induction l with
    | nil => intro _; simp
    | cons a r ih =>
      intro h
      have h1 := h a (.head _)
      have h2 := ih fun x hx => h x (.tail _ hx)
      simp only [List.length_cons, List.map_cons, List.sum_cons]
      rw [Nat.mul_add, Nat.add_mul]
      omega
  have k := this al hlt
  have k2 := hsum al s hd
  rw [hn] at k
  have : n * (al.map s.count).sum ≤ n * s.length := Nat.mul_le_mul_left n k2
  omega
/-- how long such a word may be -/
def dsB : Nat → Nat
  | 0 => 0
  | 1 => 1
  | n + 2 => (dsB (n + 1) + 2) * (n + 2) / (n + 1)
theorem ds_len : ∀ (n : Nat) (s al : List Nat), al.length = n → al.Nodup → (∀ a ∈ s, a ∈ al) → chn s → noF s → s.length ≤ dsB n
  | 0, s, al, hn, _, hs, _, _ => by
    cases s with
    | nil => simp
    | cons a r => have := hs a (.head _); rw [List.length_eq_zero_iff.mp hn] at this; nomatch this
  | 1, s, al, hn, _, hs, hc, _ => by
    obtain ⟨x, rfl⟩ := List.length_eq_one_iff.mp hn
    match s, hs, hc with
    | [], _, _ => simp
    | [a], _, _ => simp [dsB]
    | a :: b :: r, hs, hc =>
      have h1 := List.mem_singleton.mp (hs a (by simp))
      have h2 := List.mem_singleton.mp (hs b (by simp))
      exact absurd (h1.trans h2.symm) hc.1
  | n + 2, s, al, hn, hd, hs, hc, hf => by
    obtain ⟨x, hx, hm⟩ := min_count (n + 2) s al hn (by omega) hd hs
    obtain ⟨w, w1, w2, w3⟩ := chn_drop x hc hf
    have ih := ds_len (n + 1) w (al.erase x) (by rw [List.length_erase_of_mem hx]; omega) (hd.erase x) (fun a ha => by
      have := w1.subset ha
      obtain ⟨h1, h2⟩ := List.mem_filter.mp this
      exact (List.mem_erase_of_ne (by simpa using h2)).mpr (hs a h1)) w2 (noF_sub hf (w1.trans List.filter_sublist))
    have cnt : ∀ s : List Nat, s.length = s.count x + (s.filter (· ≠ x)).length := by
      intro s
      induction s with
      | nil => rfl
      | cons b t ih =>
        by_cases hb : b = x
        · subst hb; rw [List.count_cons_self, List.filter_cons_of_neg (by simp), List.length_cons]; omega
        · rw [List.count_cons_of_ne hb, List.filter_cons_of_pos (by simp [hb]), List.length_cons, List.length_cons]; omega
    have c := cnt s
    rw [dsB, Nat.le_div_iff_mul_le (by omega)]
    have e1 : s.length ≤ s.count x + dsB (n + 1) + 2 := by omega
    have e2 : s.length * (n + 1) + s.length = s.length * (n + 2) := by rw [← Nat.mul_succ]
    have e3 : s.length * (n + 2) ≤ (s.count x + dsB (n + 1) + 2) * (n + 2) := Nat.mul_le_mul_right _ e1
    have e4 : (s.count x + dsB (n + 1) + 2) * (n + 2) = (n + 2) * s.count x + (dsB (n + 1) + 2) * (n + 2) := by
      rw [Nat.add_assoc, Nat.add_mul, Nat.mul_comm (s.count x)]
    omega
end Den
namespace Den
/-! ### the least of many stretches, and how many stretches it has -/
theorem minO_none_r (a : Option Int) : minO a none = a := by cases a <;> rfl
theorem minO_none_l (a : Option Int) : minO none a = a := by cases a <;> rfl
theorem minO_c (a b : Option Int) : minO a b = minO b a := by cases a <;> cases b <;> simp [minO] <;> omega
theorem minO_assoc (a b c : Option Int) : minO (minO a b) c = minO a (minO b c) := by cases a <;> cases b <;> cases c <;> simp [minO] <;> omega
def envQ : List Q → Int → Option Int
  | [], _ => none
  | q :: r, x => minO (costQ [q] x) (envQ r x)
theorem envQ_app (a b : List Q) (x : Int) : envQ (a ++ b) x = minO (envQ a x) (envQ b x) := by
  induction a with
  | nil => simp [envQ, minO_none_l]
  | cons q r ih => rw [List.cons_append, envQ, ih, envQ, minO_assoc]
theorem one_cost (q : Q) (x : Int) : costQ [q] x = if q.lo ≤ x ∧ x ≤ q.hi then some (q.at x) else none := by
  rw [costQ]; split <;> simp [costQ]
theorem env_asc {l : List Q} (h : Asc l) (x : Int) : envQ l x = costQ l x := by
  induction l with
  | nil => rfl
  | cons q r ih =>
    rw [envQ, ih h.tail, one_cost, costQ]
    split
    · next hx => rw [h.tail_le hx.2]; rfl
    · rw [minO_none_l]
theorem env_none {S : List Q} {x : Int} : envQ S x = none ↔ ∀ q ∈ S, ¬ (q.lo ≤ x ∧ x ≤ q.hi) := by
  induction S with
  | nil => simp [envQ]
  | cons q r ih =>
    rw [envQ, one_cost]
    constructor
    · intro h
      have : ¬ (q.lo ≤ x ∧ x ≤ q.hi) ∧ envQ r x = none := by
        by_cases hx : q.lo ≤ x ∧ x ≤ q.hi
        · rw [if_pos hx] at h; cases e : envQ r x <;> rw [e] at h <;> simp [minO] at h
        · rw [if_neg hx, minO_none_l] at h; exact ⟨hx, h⟩
      intro p hp
      rcases List.mem_cons.mp hp with e | e
      · subst e; exact this.1
      · exact ih.mp this.2 p e
    · intro h
      rw [if_neg (h q (.head _)), ih.mpr fun p hp => h p (.tail _ hp)]; rfl
def IsLab (S : List Q) (x : Int) (i : Nat) : Prop := ∃ q, S[i]? = some q ∧ q.lo ≤ x ∧ x ≤ q.hi ∧ envQ S x = some (q.at x) ∧ ∀ (j : Nat) p, S[j]? = some p → p.lo ≤ x → x ≤ p.hi → q.at x ≤ p.at x ∧ (j < i → q.at x < p.at x)
theorem lab_ex : ∀ {S : List Q} {x : Int}, envQ S x ≠ none → ∃ i, IsLab S x i
  | [], x, h => absurd rfl h
  | q :: r, x, h => by
    rw [envQ, one_cost] at h
    by_cases hx : q.lo ≤ x ∧ x ≤ q.hi
    · by_cases hr : envQ r x = none
      · refine ⟨0, q, rfl, hx.1, hx.2, by rw [envQ, one_cost, if_pos hx, hr]; rfl, fun j p hj h1 h2 => ?_⟩
        cases j with
        | zero => cases hj; exact ⟨Int.le_refl _, fun k => absurd k (Nat.lt_irrefl _)⟩
        | succ j => exact absurd ⟨h1, h2⟩ (env_none.mp hr p (List.mem_of_getElem? hj))
      · obtain ⟨i, s, h1, h2, h3, h4, h5⟩ := lab_ex hr
        by_cases hc : q.at x ≤ s.at x
        · refine ⟨0, q, rfl, hx.1, hx.2, by rw [envQ, one_cost, if_pos hx, h4]; simp [minO]; omega, fun j p hj k1 k2 => ?_⟩
          cases j with
          | zero => cases hj; exact ⟨Int.le_refl _, fun k => absurd k (Nat.lt_irrefl _)⟩
          | succ j => exact ⟨Int.le_trans hc (h5 j p hj k1 k2).1, fun k => absurd k (Nat.not_lt_zero _)⟩
        · refine ⟨i + 1, s, h1, h2, h3, by rw [envQ, one_cost, if_pos hx, h4]; simp [minO]; omega, fun j p hj k1 k2 => ?_⟩
          cases j with
          | zero => cases hj; exact ⟨by omega, fun _ => by omega⟩
          | succ j => exact ⟨(h5 j p hj k1 k2).1, fun k => (h5 j p hj k1 k2).2 (by omega)⟩
    · rw [if_neg hx, minO_none_l] at h
      obtain ⟨i, s, h1, h2, h3, h4, h5⟩ := lab_ex h
      refine ⟨i + 1, s, h1, h2, h3, by rw [envQ, one_cost, if_neg hx, minO_none_l, h4], fun j p hj k1 k2 => ?_⟩
      cases j with
      | zero => cases hj; exact absurd ⟨k1, k2⟩ hx
      | succ j => exact ⟨(h5 j p hj k1 k2).1, fun k => (h5 j p hj k1 k2).2 (by omega)⟩
theorem lab_noF {S : List Q} {a b : Nat} (hab : a ≠ b) {x1 x2 x3 x4 x5 : Int} (h12 : x1 < x2) (h23 : x2 < x3) (h34 : x3 < x4) (h45 : x4 < x5) (l1 : IsLab S x1 a) (l2 : IsLab S x2 b) (l3 : IsLab S x3 a) (l4 : IsLab S x4 b) (l5 : IsLab S x5 a) : False := by
  obtain ⟨p, p1, p2, p3, _, _⟩ := l1
  obtain ⟨q, q1, q2, q3, _, q5⟩ := l2
  obtain ⟨p', r1, r2, r3, _, r5⟩ := l3
  obtain ⟨q', s1, s2, s3, _, s5⟩ := l4
  obtain ⟨p'', t1, t2, t3, _, _⟩ := l5
  rw [p1] at r1 t1
  rw [q1] at s1
  cases r1; cases s1; cases t1
  have k2 := q5 a p p1 (by omega) (by omega)
  have k3 := r5 b q q1 (by omega) (by omega)
  have k4 := s5 a p p1 (by omega) (by omega)
  have e1 := q.at_sub x3 x2
  have e2 := p.at_sub x3 x2
  have e3 := q.at_sub x4 x3
  have e4 := p.at_sub x4 x3
  obtain ⟨u, hu⟩ : ∃ u : Nat, x3 - x2 = u + 1 := ⟨(x3 - x2 - 1).toNat, by omega⟩
  obtain ⟨v, hv⟩ : ∃ v : Nat, x4 - x3 = v + 1 := ⟨(x4 - x3 - 1).toNat, by omega⟩
  have d1 : 0 < (q.st - p.st) * (x3 - x2) := by
    rw [Int.sub_mul]
    rcases Nat.lt_or_gt_of_ne hab with h | h
    · have := k2.2 h; omega
    · have := k3.2 h; omega
  have d2 : (q.st - p.st) * (x4 - x3) < 0 := by
    rw [Int.sub_mul]
    rcases Nat.lt_or_gt_of_ne hab with h | h
    · have := k4.2 h; omega
    · have := k3.2 h; omega
  have z1 : 0 < q.st - p.st := Int.pos_of_mul_pos_left d1 (by omega)
  have z2 : 0 < (q.st - p.st) * (x4 - x3) := Int.mul_pos z1 (by omega)
  omega
structure Run (S : List Q) (n : Int) (t : List (Nat × Q)) : Prop where
  ok : ∀ e ∈ t, ∃ q, S[e.1]? = some q ∧ q.lo ≤ e.2.lo ∧ e.2.lo ≤ e.2.hi ∧ e.2.hi ≤ q.hi ∧ e.2.pr = q.at e.2.lo ∧ e.2.st = q.st ∧ IsLab S e.2.lo e.1
  up : ∀ e ∈ t, e.2.hi < n
  asc : t.Pairwise fun a b => a.2.hi < b.2.lo
  ch : chn (t.map Prod.fst)
  cost : ∀ x, x < n → costQ (t.map Prod.snd) x = envQ S x
theorem chn_snoc {u : List Nat} {a b : Nat} (h : chn (u ++ [a])) (k : a ≠ b) : chn (u ++ [a] ++ [b]) := by
  have := chn_glue (a := a) (r := [b]) ⟨k, trivial⟩ h
  simpa using this
theorem run_step {S : List Q} {n : Int} {t : List (Nat × Q)} (h : Run S n t) : ∃ t', Run S (n + 1) t' := by
  by_cases hn : envQ S n = none
  · refine ⟨t, h.ok, fun e he => by have := h.up e he; omega, h.asc, h.ch, fun x hx => ?_⟩
    by_cases e : x = n
    · subst e
      rw [hn]
      exact costQ_none fun q hq => by
        obtain ⟨e, he, rfl⟩ := List.mem_map.mp hq
        have := h.up e he; omega
    · exact h.cost x (by omega)
  · obtain ⟨i, hi⟩ := lab_ex hn
    have hi' := hi
    obtain ⟨q, i1, i2, i3, i4, i5⟩ := hi
    have new : (∀ u e, t = u ++ [e] → e.1 ≠ i) → ∃ t', Run S (n + 1) t' := fun hne => by
      refine ⟨t ++ [(i, ⟨n, n, q.at n, q.st⟩)], ?_, ?_, ?_, ?_, ?_⟩
      · intro e he
        rcases List.mem_append.mp he with k | k
        · exact h.ok e k
        · rw [List.mem_singleton.mp k]; exact ⟨q, i1, i2, Int.le_refl _, i3, rfl, rfl, hi'⟩
      · intro e he
        rcases List.mem_append.mp he with k | k
        · have := h.up e k; omega
        · rw [List.mem_singleton.mp k]; exact Int.lt_succ n
      · refine List.pairwise_append.mpr ⟨h.asc, List.pairwise_singleton _ _, fun a ha b hb => ?_⟩
        rw [List.mem_singleton.mp hb]; exact h.up a ha
      · rw [List.map_append]
        rcases List.eq_nil_or_concat t with e | ⟨u, e, k⟩
        · subst e; trivial
        · rw [List.concat_eq_append] at k
          have := hne u e k
          subst k
          have hc := h.ch
          rw [List.map_append] at hc ⊢
          exact chn_snoc hc this
      · intro x hx
        rw [List.map_append, costQ_app]
        by_cases e : x = n
        · subst e
          rw [costQ_none (l := t.map Prod.snd) fun q hq => by
            obtain ⟨e, he, rfl⟩ := List.mem_map.mp hq
            have := h.up e he; omega]
          rw [i4]; simp [one_cost, Q.at]
        · rw [h.cost x (by omega)]
          have : costQ (List.map Prod.snd [(i, (⟨n, n, q.at n, q.st⟩ : Q))]) x = none := costQ_none fun p hp => by
            rw [List.map_singleton, List.mem_singleton] at hp
            subst hp; simp only; omega
          rw [this]; cases envQ S x <;> rfl
    rcases List.eq_nil_or_concat t with e | ⟨u, e, k⟩
    · exact new fun u e k => by subst k; simp at e
    · rw [List.concat_eq_append] at k
      by_cases hl : e.1 = i
      · subst k
        obtain ⟨p, p1, p2, p3, p4, p5, p6, p7⟩ := h.ok e (by simp)
        rw [hl, i1] at p1
        cases p1
        have hup := h.up e (by simp)
        have hasc := List.pairwise_append.mp h.asc
        have hhi : e.2.hi = n - 1 := by
          apply Classical.byContradiction
          intro hc
          have k1 := h.cost (n - 1) (by omega)
          rw [costQ_none (fun s hs => by
            obtain ⟨e', he, rfl⟩ := List.mem_map.mp hs
            rcases List.mem_append.mp he with k | k
            · have := hasc.2.2 e' k e (by simp)
              omega
            · rw [List.mem_singleton.mp k]; omega)] at k1
          exact env_none.mp k1.symm q (List.mem_of_getElem? i1) ⟨by omega, by omega⟩
        have hw : ∀ x, n - 1 < x → x ≤ n → x = n := fun x _ _ => by omega
        refine ⟨u ++ [(i, ⟨e.2.lo, n, e.2.pr, e.2.st⟩)], ?_, ?_, ?_, ?_, ?_⟩
        · intro e' he
          rcases List.mem_append.mp he with k | k
          · exact h.ok e' (List.mem_append_left _ k)
          · rw [List.mem_singleton.mp k]; exact ⟨q, i1, p2, by simp only; omega, i3, p5, p6, hl ▸ p7⟩
        · intro e' he
          rcases List.mem_append.mp he with k | k
          · have := h.up e' (List.mem_append_left _ k); omega
          · rw [List.mem_singleton.mp k]; exact Int.lt_succ n
        · refine List.pairwise_append.mpr ⟨hasc.1, List.pairwise_singleton _ _, fun a ha b hb => ?_⟩
          rw [List.mem_singleton.mp hb]; exact hasc.2.2 a ha e (by simp)
        · have := h.ch
          rw [List.map_append] at this ⊢
          rw [← hl]; exact this
        · intro x hx
          rw [List.map_append, costQ_app]
          by_cases ex : x = n
          · subst ex
            rw [costQ_none (l := u.map Prod.snd) fun s hs => by
              obtain ⟨e', he, rfl⟩ := List.mem_map.mp hs
              have := h.up e' (List.mem_append_left _ he); omega]
            rw [i4, List.map_singleton, one_cost, if_pos (by simp only; omega), Option.none_or]
            congr 1
            show e.2.pr + e.2.st * (x - e.2.lo) = _
            rw [p5, p6]
            exact (q.at_sub x e.2.lo).symm
          · have k1 := h.cost x (by omega)
            rw [← k1, List.map_append, costQ_app]
            congr 1
            rw [List.map_singleton, List.map_singleton, one_cost, one_cost]
            simp only
            by_cases c : e.2.lo ≤ x ∧ x ≤ e.2.hi
            · rw [if_pos c, if_pos ⟨c.1, by omega⟩]; rfl
            · rw [if_neg c, if_neg (by omega)]
      · exact new fun u' e' k' => by
          subst k
          obtain ⟨_, e2⟩ := List.append_inj' k' rfl
          have := (List.cons.inj e2).1
          rw [← this]; exact hl
theorem run_all {S : List Q} {n : Int} (h : ∀ q ∈ S, n ≤ q.lo) : ∀ k : Nat, ∃ t, Run S (n + k) t
  | 0 => ⟨[], ⟨fun e he => (nomatch he), fun e he => (nomatch he), .nil, trivial, fun x hx => (env_none.mpr fun q hq c => by have := h q hq; omega).symm⟩⟩
  | k + 1 => by
    obtain ⟨t, ht⟩ := run_all h k
    obtain ⟨t', ht'⟩ := run_step ht
    exact ⟨t', by rw [show n + ((k + 1 : Nat) : Int) = n + k + 1 by omega]; exact ht'⟩
theorem env_len {S L : List Q} (hL : Can L) (h : ∀ x, costQ L x = envQ S x) : L.length ≤ dsB S.length := by
  obtain ⟨N, hN⟩ := bd_any S
  obtain ⟨t, ht⟩ := run_all (S := S) (n := -(N : Int)) (fun q hq => by have := (hN q hq).lo; omega) (2 * N + 1)
  have len : (t.map Prod.fst).length ≤ dsB S.length := by
    refine ds_len S.length (t.map Prod.fst) (List.range S.length) List.length_range List.nodup_range (fun a ha => ?_) ht.ch fun a b hab hs => ?_
    · obtain ⟨e, he, rfl⟩ := List.mem_map.mp ha
      obtain ⟨q, k, _⟩ := ht.ok e he
      obtain ⟨k, _⟩ := List.getElem?_eq_some_iff.mp k
      exact List.mem_range.mpr k
    · obtain ⟨l', h1, h2⟩ := List.sublist_map_iff.mp hs
      have hp := ht.asc.sublist h1
      have hm := fun e he => ht.ok e (h1.subset he)
      obtain ⟨e1, l1, rfl, g1, h2⟩ := List.map_eq_cons_iff.mp h2.symm
      obtain ⟨e2, l2, rfl, g2, h2⟩ := List.map_eq_cons_iff.mp h2
      obtain ⟨e3, l3, rfl, g3, h2⟩ := List.map_eq_cons_iff.mp h2
      obtain ⟨e4, l4, rfl, g4, h2⟩ := List.map_eq_cons_iff.mp h2
      obtain ⟨e5, l5, rfl, g5, h2⟩ := List.map_eq_cons_iff.mp h2
      obtain ⟨_, _, _, a1, _, _, _, b1⟩ := hm e1 (by simp)
      obtain ⟨_, _, _, a2, _, _, _, b2⟩ := hm e2 (by simp)
      obtain ⟨_, _, _, a3, _, _, _, b3⟩ := hm e3 (by simp)
      obtain ⟨_, _, _, a4, _, _, _, b4⟩ := hm e4 (by simp)
      obtain ⟨_, _, _, a5, _, _, _, b5⟩ := hm e5 (by simp)
      simp only [List.pairwise_cons] at hp
      have c1 := hp.1 e2 (by simp)
      have c2 := hp.2.1 e3 (by simp)
      have c3 := hp.2.2.1 e4 (by simp)
      have c4 := hp.2.2.2.1 e5 (by simp)
      rw [g1] at b1; rw [g2] at b2; rw [g3] at b3; rw [g4] at b4; rw [g5] at b5
      exact lab_noF hab (by omega) (by omega) (by omega) (by omega) b1 b2 b3 b4 b5
  have asc : Asc (t.map Prod.snd) := ⟨fun q hq => by
    obtain ⟨e, he, rfl⟩ := List.mem_map.mp hq
    obtain ⟨_, _, _, k, _⟩ := ht.ok e he
    exact k, List.pairwise_map.mpr ht.asc⟩
  have := can_len hL asc fun x => by
    rw [h x]
    by_cases hx : x < -(N : Int) + ((2 * N + 1 : Nat) : Int)
    · exact (ht.cost x hx).symm
    · rw [costQ_none fun q hq => by
        obtain ⟨e, he, rfl⟩ := List.mem_map.mp hq
        have := ht.up e he; omega]
      exact env_none.mpr fun q hq c => by have := (hN q hq).hi; omega
  simp only [List.length_map] at this len
  omega
end Den
namespace Den
/-! ### a stretch and a stretch, one after the other -/
def chainU (f s : Q) : List Q := ⟨f.lo + s.lo, f.hi + s.lo, f.pr + s.pr, f.st⟩ :: if s.lo < s.hi then [⟨f.hi + s.lo + 1, f.hi + s.hi, f.pr + s.pr + f.st * (f.hi - f.lo) + s.st, s.st⟩] else []
def chainQ (a b : Q) : List Q := if b.st < a.st then chainU b a else chainU a b
theorem chainU_len (f s : Q) : 1 ≤ (chainU f s).length ∧ (chainU f s).length ≤ 2 := by unfold chainU; split <;> simp
theorem chainQ_len (a b : Q) : 1 ≤ (chainQ a b).length ∧ (chainQ a b).length ≤ 2 := by unfold chainQ; split <;> exact chainU_len _ _
theorem chainU_asc {f s : Q} (hf : f.lo ≤ f.hi) (hs : s.lo ≤ s.hi) : Asc (chainU f s) := by
  unfold chainU
  split
  · refine asc_cons.mpr ⟨by simp only; omega, fun b hb => ?_, Asc.one (by simp only; omega)⟩
    rw [List.mem_singleton.mp hb]; simp only; omega
  · exact Asc.one (by simp only; omega)
theorem chainQ_asc {a b : Q} (ha : a.lo ≤ a.hi) (hb : b.lo ≤ b.hi) : Asc (chainQ a b) := by
  unfold chainQ; split
  · exact chainU_asc hb ha
  · exact chainU_asc ha hb
theorem chainU_bd {N : Nat} {f s : Q} (bf : f.bd N) (bs : s.bd N) (hf : f.lo ≤ f.hi) (hs : s.lo ≤ s.hi) : Bd (2 * N) (chainU f s) := by
  have t : 2 * N = N + N := by omega
  have h1 : Q.bd (2 * N) ⟨f.lo + s.lo, f.hi + s.lo, f.pr + s.pr, f.st⟩ := ⟨by rw [t]; exact nadd bf.lo bs.lo, by rw [t]; exact nadd bf.hi bs.lo, by rw [t]; exact nadd bf.pr bs.pr, le2 bf.st, by
    have : Q.at ⟨f.lo + s.lo, f.hi + s.lo, f.pr + s.pr, f.st⟩ (f.hi + s.lo) = f.at f.hi + s.pr := by
      show f.pr + s.pr + f.st * (f.hi + s.lo - (f.lo + s.lo)) = f.pr + f.st * (f.hi - f.lo) + s.pr
      rw [show f.hi + s.lo - (f.lo + s.lo) = f.hi - f.lo by omega]; omega
    show (Q.at ⟨f.lo + s.lo, f.hi + s.lo, f.pr + s.pr, f.st⟩ (f.hi + s.lo)).natAbs ≤ 2 * N
    rw [this, t]; exact nadd bf.en bs.pr⟩
  unfold chainU
  split
  · next h =>
    refine bd_cons.mpr ⟨h1, bd_cons.mpr ⟨?_, Bd.nil⟩⟩
    have k := bs.at (x := s.lo + 1) (by omega) (by omega)
    have k2 : s.at (s.lo + 1) = s.pr + s.st := by
      show s.pr + s.st * (s.lo + 1 - s.lo) = _
      rw [show s.lo + 1 - s.lo = 1 by omega, Int.mul_one]
    have k3 : (s.lo + 1).natAbs ≤ N := by
      have := bs.lo; have := bs.hi; clear bf bs h1 t k k2; omega
    refine ⟨?_, ?_, ?_, le2 bs.st, ?_⟩
    · show (f.hi + s.lo + 1).natAbs ≤ _
      rw [t, Int.add_assoc]; exact nadd bf.hi k3
    · rw [t]; exact nadd bf.hi bs.hi
    · show (f.pr + s.pr + f.st * (f.hi - f.lo) + s.st).natAbs ≤ _
      have : f.pr + s.pr + f.st * (f.hi - f.lo) + s.st = f.at f.hi + s.at (s.lo + 1) := by
        rw [k2]
        show _ = f.pr + f.st * (f.hi - f.lo) + (s.pr + s.st)
        omega
      rw [this, t]; exact nadd bf.en k
    · have : Q.at ⟨f.hi + s.lo + 1, f.hi + s.hi, f.pr + s.pr + f.st * (f.hi - f.lo) + s.st, s.st⟩ (f.hi + s.hi) = f.at f.hi + s.at s.hi := by
        show f.pr + s.pr + f.st * (f.hi - f.lo) + s.st + s.st * (f.hi + s.hi - (f.hi + s.lo + 1)) = f.pr + f.st * (f.hi - f.lo) + (s.pr + s.st * (s.hi - s.lo))
        rw [show f.hi + s.hi - (f.hi + s.lo + 1) = s.hi - s.lo - 1 by omega, Int.mul_sub s.st (s.hi - s.lo) 1, Int.mul_one]
        omega
      show (Q.at ⟨f.hi + s.lo + 1, f.hi + s.hi, f.pr + s.pr + f.st * (f.hi - f.lo) + s.st, s.st⟩ (f.hi + s.hi)).natAbs ≤ 2 * N
      rw [this, t]; exact nadd bf.en bs.en
  · exact bd_cons.mpr ⟨h1, Bd.nil⟩
theorem chainQ_bd {N : Nat} {a b : Q} (ba : a.bd N) (bb : b.bd N) (ha : a.lo ≤ a.hi) (hb : b.lo ≤ b.hi) : Bd (2 * N) (chainQ a b) := by
  unfold chainQ; split
  · exact chainU_bd bb ba hb ha
  · exact chainU_bd ba bb ha hb
/-! ### the least of what is so -/
structure IsMin (P : Int → Prop) (o : Option Int) : Prop where
  le : ∀ c, P c → ∃ z, o = some z ∧ z ≤ c
  at_ : ∀ z, o = some z → P z
theorem IsMin.uniq {P : Int → Prop} {a b : Option Int} (ha : IsMin P a) (hb : IsMin P b) : a = b := by
  cases a with
  | none =>
    cases b with
    | none => rfl
    | some z => obtain ⟨y, e, _⟩ := ha.le z (hb.at_ z rfl); cases e
  | some y =>
    obtain ⟨z, e, h1⟩ := hb.le y (ha.at_ y rfl)
    subst e
    obtain ⟨w, e, h2⟩ := ha.le z (hb.at_ z rfl)
    cases e
    rw [Int.le_antisymm h2 h1]
theorem IsMin.congr {P R : Int → Prop} {o : Option Int} (h : IsMin P o) (k : ∀ c, P c ↔ R c) : IsMin R o := ⟨fun c hc => h.le c ((k c).mpr hc), fun z e => (k z).mp (h.at_ z e)⟩
theorem IsMin.or {P R : Int → Prop} {a b : Option Int} (ha : IsMin P a) (hb : IsMin R b) : IsMin (fun c => P c ∨ R c) (minO a b) := by
  constructor
  · intro c hc
    rcases hc with h | h
    · obtain ⟨z, e, k⟩ := ha.le c h
      subst e
      cases b with
      | none => exact ⟨z, rfl, k⟩
      | some w => exact ⟨min z w, rfl, by omega⟩
    · obtain ⟨z, e, k⟩ := hb.le c h
      subst e
      cases a with
      | none => exact ⟨z, rfl, k⟩
      | some w => exact ⟨min w z, rfl, by omega⟩
  · intro z e
    cases a with
    | none => rw [minO_none_l] at e; exact .inr (hb.at_ z e)
    | some w =>
      cases b with
      | none => rw [minO_none_r] at e; exact .inl (ha.at_ z e)
      | some y =>
        cases e
        by_cases h : w ≤ y
        · rw [Int.min_eq_left h]; exact .inl (ha.at_ w rfl)
        · rw [Int.min_eq_right (by omega)]; exact .inr (hb.at_ y rfl)
theorem isMin_none : IsMin (fun _ => False) none := ⟨fun _ h => h.elim, fun _ e => nomatch e⟩
theorem isMin_one (q : Q) (x : Int) : IsMin (fun c => q.lo ≤ x ∧ x ≤ q.hi ∧ c = q.at x) (costQ [q] x) := by
  rw [one_cost]
  split
  · next h => exact ⟨fun c hc => ⟨_, rfl, by rw [hc.2.2]; exact Int.le_refl _⟩, fun z e => by cases e; exact ⟨h.1, h.2, rfl⟩⟩
  · next h => exact ⟨fun c hc => absurd ⟨hc.1, hc.2.1⟩ h, fun z e => nomatch e⟩
theorem env_min (S : List Q) (x : Int) : IsMin (fun c => ∃ q ∈ S, q.lo ≤ x ∧ x ≤ q.hi ∧ c = q.at x) (envQ S x) := by
  induction S with
  | nil => exact isMin_none.congr fun c => by simp
  | cons q r ih => exact ((isMin_one q x).or ih).congr fun c => by simp
theorem cost_min {l : List Q} (h : Asc l) (x : Int) : IsMin (fun c => costQ l x = some c) (costQ l x) := ⟨fun c hc => ⟨c, hc, Int.le_refl _⟩, fun z e => e⟩
/-! ### the least sums -/
def sums (a b : Q) (x c : Int) : Prop := ∃ y z, y + z = x ∧ a.lo ≤ y ∧ y ≤ a.hi ∧ b.lo ≤ z ∧ z ≤ b.hi ∧ c = a.at y + b.at z
theorem chainU_min {f s : Q} (hf : f.lo ≤ f.hi) (hs : s.lo ≤ s.hi) (h : f.st ≤ s.st) (x : Int) : IsMin (sums f s x) (costQ (chainU f s) x) := by
  have key : costQ (chainU f s) x = if f.lo + s.lo ≤ x ∧ x ≤ f.hi + s.hi then (if x ≤ f.hi + s.lo then some (f.at (x - s.lo) + s.pr) else some (f.at f.hi + s.at (x - f.hi))) else none := by
    have v1 : Q.at ⟨f.lo + s.lo, f.hi + s.lo, f.pr + s.pr, f.st⟩ x = f.at (x - s.lo) + s.pr := by
      show f.pr + s.pr + f.st * (x - (f.lo + s.lo)) = f.pr + f.st * (x - s.lo - f.lo) + s.pr
      rw [show x - (f.lo + s.lo) = x - s.lo - f.lo by omega]; omega
    have v2 : Q.at ⟨f.hi + s.lo + 1, f.hi + s.hi, f.pr + s.pr + f.st * (f.hi - f.lo) + s.st, s.st⟩ x = f.at f.hi + s.at (x - f.hi) := by
      show f.pr + s.pr + f.st * (f.hi - f.lo) + s.st + s.st * (x - (f.hi + s.lo + 1)) = f.pr + f.st * (f.hi - f.lo) + (s.pr + s.st * (x - f.hi - s.lo))
      rw [show x - (f.hi + s.lo + 1) = x - f.hi - s.lo - 1 by omega, Int.mul_sub s.st (x - f.hi - s.lo) 1, Int.mul_one]
      omega
    unfold chainU
    by_cases h1 : s.lo < s.hi
    · rw [if_pos h1, costQ, costQ, costQ, v1, v2]
      simp only
      by_cases c1 : f.lo + s.lo ≤ x ∧ x ≤ f.hi + s.lo
      · rw [if_pos c1, if_pos ⟨c1.1, by omega⟩, if_pos c1.2]
      · rw [if_neg c1]
        by_cases c2 : f.hi + s.lo + 1 ≤ x ∧ x ≤ f.hi + s.hi
        · rw [if_pos c2, if_pos ⟨by omega, c2.2⟩, if_neg (by omega)]
        · rw [if_neg c2, if_neg (by omega)]
    · rw [if_neg h1, costQ, costQ, v1]
      simp only
      by_cases c1 : f.lo + s.lo ≤ x ∧ x ≤ f.hi + s.lo
      · rw [if_pos c1, if_pos ⟨c1.1, by omega⟩, if_pos c1.2]
      · rw [if_neg c1, if_neg (by omega)]
  rw [key]
  have sp : s.pr = s.at s.lo := (Q.at_lo s).symm
  constructor
  · rintro c ⟨y, z, e, y1, y2, z1, z2, rfl⟩
    rw [if_pos ⟨by omega, by omega⟩]
    by_cases c1 : x ≤ f.hi + s.lo
    · rw [if_pos c1]
      refine ⟨_, rfl, ?_⟩
      have e1 := f.at_sub (x - s.lo) y
      have e2 := s.at_sub z s.lo
      have e3 : f.st * (x - s.lo - y) ≤ s.st * (z - s.lo) := by
        rw [show x - s.lo - y = z - s.lo by omega]
        exact Int.mul_le_mul_of_nonneg_right h (by omega)
      rw [sp]; omega
    · rw [if_neg c1]
      refine ⟨_, rfl, ?_⟩
      have e1 := f.at_sub f.hi y
      have e2 := s.at_sub z (x - f.hi)
      have e3 : f.st * (f.hi - y) ≤ s.st * (z - (x - f.hi)) := by
        rw [show z - (x - f.hi) = f.hi - y by omega]
        exact Int.mul_le_mul_of_nonneg_right h (by omega)
      omega
  · intro z e
    by_cases c0 : f.lo + s.lo ≤ x ∧ x ≤ f.hi + s.hi
    · rw [if_pos c0] at e
      by_cases c1 : x ≤ f.hi + s.lo
      · rw [if_pos c1] at e
        cases e
        exact ⟨x - s.lo, s.lo, by omega, by omega, by omega, by omega, by omega, by rw [sp]⟩
      · rw [if_neg c1] at e
        cases e
        exact ⟨f.hi, x - f.hi, by omega, by omega, by omega, by omega, by omega, rfl⟩
    · rw [if_neg c0] at e; cases e
theorem sums_comm (a b : Q) (x c : Int) : sums a b x c ↔ sums b a x c := by
  constructor <;> rintro ⟨y, z, e, h1, h2, h3, h4, h5⟩ <;> exact ⟨z, y, by omega, h3, h4, h1, h2, by omega⟩
theorem chainQ_min {a b : Q} (ha : a.lo ≤ a.hi) (hb : b.lo ≤ b.hi) (x : Int) : IsMin (sums a b x) (costQ (chainQ a b) x) := by
  unfold chainQ
  split
  · next h => exact (chainU_min hb ha (by omega) x).congr fun c => sums_comm b a x c
  · next h => exact chainU_min ha hb (by omega) x
theorem chainQ_comm {a b : Q} (ha : a.lo ≤ a.hi) (hb : b.lo ≤ b.hi) (x : Int) : costQ (chainQ a b) x = costQ (chainQ b a) x :=
  (chainQ_min ha hb x).uniq ((chainQ_min hb ha x).congr fun c => sums_comm b a x c)
def chainsQ (A B : List Q) : List (List Q) := A.flatMap fun a => B.map fun b => laidQ (chainQ a b)
/-- a cost of the one at an amount and of the other at another, x together -/
def convP (A B : List Q) (x c : Int) : Prop := ∃ y z cy cz, y + z = x ∧ costQ A y = some cy ∧ costQ B z = some cz ∧ c = cy + cz
theorem convP_comm (A B : List Q) (x c : Int) : convP A B x c ↔ convP B A x c := by
  constructor <;> rintro ⟨y, z, cy, cz, e, h1, h2, h3⟩ <;> exact ⟨z, y, cz, cy, by omega, h2, h1, by omega⟩
/-- the costs of a split -/
def SplitOf (A B L : List Q) : Prop := Can L ∧ ∀ x, IsMin (convP A B x) (costQ L x)
theorem SplitOf.uniq {A B L M : List Q} (h : SplitOf A B L) (k : SplitOf A B M) : L = M := can_uniq h.1 k.1 fun x => (h.2 x).uniq (k.2 x)
theorem SplitOf.comm {A B L : List Q} (h : SplitOf A B L) : SplitOf B A L := ⟨h.1, fun x => (h.2 x).congr fun c => convP_comm A B x c⟩
theorem env_flat_min : ∀ {fs : List (List Q)} (x : Int), (∀ f ∈ fs, Asc f) → IsMin (fun c => ∃ f ∈ fs, costQ f x = some c) (envQ fs.flatten x)
  | [], x, _ => isMin_none.congr fun c => by simp
  | f :: r, x, h => by
    rw [List.flatten_cons, envQ_app, env_asc (h f (.head _))]
    exact ((cost_min (h f (.head _)) x).or (env_flat_min x fun g hg => h g (.tail _ hg))).congr fun c => by simp
theorem chains_conv {A B : List Q} (hA : Asc A) (hB : Asc B) (x : Int) : IsMin (convP A B x) (envQ (chainsQ A B).flatten x) := by
  have h := env_flat_min (fs := chainsQ A B) x fun f hf => by
    obtain ⟨a, ha, h2⟩ := List.mem_flatMap.mp hf
    obtain ⟨b, hb, rfl⟩ := List.mem_map.mp h2
    exact (laidQ_can (chainQ_asc (hA.w a ha) (hB.w b hb))).asc
  constructor
  · rintro c ⟨y, z, cy, cz, e, e1, e2, rfl⟩
    obtain ⟨a, ha, a1, a2, rfl⟩ := costQ_some e1
    obtain ⟨b, hb, b1, b2, rfl⟩ := costQ_some e2
    obtain ⟨w, k1, k2⟩ := (chainQ_min (hA.w a ha) (hB.w b hb) x).le _ ⟨y, z, e, a1, a2, b1, b2, rfl⟩
    obtain ⟨v, v1, v2⟩ := h.le w ⟨laidQ (chainQ a b), List.mem_flatMap.mpr ⟨a, ha, List.mem_map.mpr ⟨b, hb, rfl⟩⟩, by rw [laidQ_cost (chainQ_asc (hA.w a ha) (hB.w b hb))]; exact k1⟩
    exact ⟨v, v1, by omega⟩
  · intro z e
    obtain ⟨f, hf, k⟩ := h.at_ z e
    obtain ⟨a, ha, h2⟩ := List.mem_flatMap.mp hf
    obtain ⟨b, hb, rfl⟩ := List.mem_map.mp h2
    rw [laidQ_cost (chainQ_asc (hA.w a ha) (hB.w b hb))] at k
    obtain ⟨y, w, e2, a1, a2, b1, b2, e3⟩ := (chainQ_min (hA.w a ha) (hB.w b hb) x).at_ z k
    exact ⟨y, w, a.at y, b.at w, e2, hA.cost_mem ha a1 a2, hB.cost_mem hb b1 b2, e3⟩
/-! ### the least of many forms, by pairs -/
def roundQ : List (List Q) → List (List Q)
  | a :: b :: r => laidQ (leastR a b) :: roundQ r
  | l => l
def roundP : List (List Q × List Q) → List (List Q × List Q)
  | a :: b :: r => (laidQ (leastR a.1 b.1), a.2 ++ b.2) :: roundP r
  | l => l
theorem roundP_fst : ∀ P : List (List Q × List Q), (roundP P).map Prod.fst = roundQ (P.map Prod.fst)
  | [] => by simp [roundP, roundQ]
  | [_] => by simp [roundP, roundQ]
  | a :: b :: r => by
    show _ :: (roundP r).map Prod.fst = _ :: roundQ (r.map Prod.fst)
    rw [roundP_fst r]
theorem roundP_snd : ∀ P : List (List Q × List Q), ((roundP P).map Prod.snd).flatten = (P.map Prod.snd).flatten
  | [] => rfl
  | [_] => rfl
  | a :: b :: r => by
    show ((a.2 ++ b.2) :: (roundP r).map Prod.snd).flatten = _
    rw [List.flatten_cons, roundP_snd r]; simp
theorem roundQ_len : ∀ P : List (List Q), (roundQ P).length = (P.length + 1) / 2
  | [] => by simp [roundQ]
  | [_] => by simp [roundQ]
  | a :: b :: r => by
    show (roundQ r).length + 1 = _
    rw [roundQ_len r]; simp; omega
structure Nd (k N : Nat) (e : List Q × List Q) : Prop where
  can : Can e.1
  cost : ∀ x, costQ e.1 x = envQ e.2 x
  len : e.2.length ≤ 2 * 2 ^ k
  bd : Bd (2 ^ k * N) e.1
def Full (k : Nat) : List (List Q × List Q) → Prop
  | a :: b :: r => a.2.length = 2 * 2 ^ k ∧ Full k (b :: r)
  | _ => True
theorem Full.tail {k : Nat} {a : List Q × List Q} {r : List (List Q × List Q)} (h : Full k (a :: r)) : Full k r := by
  cases r with
  | nil => trivial
  | cons b r => exact h.2
theorem pow_mul (k N : Nat) : 2 * (2 ^ k * N) = 2 ^ (k + 1) * N := by rw [Nat.pow_succ, ← Nat.mul_assoc, Nat.mul_comm 2 (2 ^ k)]
theorem round_nd {k N : Nat} : ∀ {P : List (List Q × List Q)}, (∀ e ∈ P, Nd k N e) → Full k P → (∀ e ∈ roundP P, Nd (k + 1) N e) ∧ Full (k + 1) (roundP P)
  | [], _, _ => ⟨fun e he => by simp [roundP] at he, by simp [roundP, Full]⟩
  | [a], h, _ => ⟨fun e he => by
    have he : e ∈ [a] := by simpa [roundP] using he
    rw [List.mem_singleton.mp he]
    obtain ⟨h1, h2, h3, h4⟩ := h a (.head _)
    exact ⟨h1, h2, by rw [Nat.pow_succ]; omega, h4.mono (by rw [← pow_mul]; omega)⟩, by simp [roundP, Full]⟩
  | a :: b :: r, h, hf => by
    obtain ⟨i1, i2⟩ := round_nd (P := r) (fun e he => h e (by simp [he])) hf.2.tail
    obtain ⟨a1, a2, a3, a4⟩ := h a (by simp)
    obtain ⟨b1, b2, b3, b4⟩ := h b (by simp)
    obtain ⟨c1, c2, c3, c4⟩ := leastR_ok a.1 b.1
    have new : Nd (k + 1) N (laidQ (leastR a.1 b.1), a.2 ++ b.2) := ⟨laidQ_can c1, fun x => by rw [laidQ_cost c1, c2, a2, b2, envQ_app], by rw [List.length_append, Nat.pow_succ]; omega, by
      have := laidQ_bd c1 (c3 _ a4 b4)
      rw [← pow_mul]; exact this⟩
    refine ⟨fun e he => ?_, ?_⟩
    · rcases List.mem_cons.mp (show e ∈ (laidQ (leastR a.1 b.1), a.2 ++ b.2) :: roundP r from he) with k | k
      · rw [k]; exact new
      · exact i1 e k
    · show Full (k + 1) ((laidQ (leastR a.1 b.1), a.2 ++ b.2) :: roundP r)
      have hr : roundP r = [] ∨ ∃ c t, r = c :: t := by
        cases r with
        | nil => exact .inl rfl
        | cons c t => exact .inr ⟨c, t, rfl⟩
      rcases hr with e | ⟨c, t, e⟩
      · rw [e]; trivial
      · subst e
        have l : (a.2 ++ b.2).length = 2 * 2 ^ (k + 1) := by rw [List.length_append, hf.1, hf.2.1, Nat.pow_succ]; omega
        cases e : roundP (c :: t) with
        | nil => trivial
        | cons d u => rw [e] at i2; exact ⟨l, i2⟩
theorem ds_pair : ∀ a ≤ 128, ∀ b ≤ 128, a + b ≤ 200 → dsB a + dsB b ≤ 2000 := by
  have mono : ∀ n, dsB n ≤ dsB (n + 1) := by
    intro n
    match n with
    | 0 => simp [dsB]
    | n + 1 =>
      rw [dsB, Nat.le_div_iff_mul_le (by omega)]
      have : dsB (n + 1) * (n + 1) ≤ (dsB (n + 1) + 2) * (n + 2) := Nat.mul_le_mul (by omega) (by omega)
      exact this
  have mono2 : ∀ b a, a ≤ b → dsB a ≤ dsB b := by
    intro b
    induction b with
    | zero => intro a h; rw [Nat.le_zero.mp h]; exact Nat.le_refl _
    | succ b ih =>
      intro a h
      by_cases e : a = b + 1
      · rw [e]; exact Nat.le_refl _
      · exact Nat.le_trans (ih a (by omega)) (mono b)
  have main : ∀ a ≤ 128, dsB a + dsB (min 128 (200 - a)) ≤ 2000 := by decide +kernel
  intro a ha b hb hab
  have := main a ha
  have := mono2 (min 128 (200 - a)) b (by omega)
  omega
/-- each two that are put together are short enough -/
theorem round_short {k N : Nat} : ∀ {P : List (List Q × List Q)}, (∀ e ∈ P, Nd k N e) → Full k P → ((P.map Prod.snd).flatten).length ≤ 200 → ∀ a b r u, P.map Prod.fst = u ++ a :: b :: r → a.length + b.length ≤ 2000 := by
  intro P h hf hl a b r u e
  obtain ⟨P1, P2, e1, e2, e3⟩ := List.map_eq_append_iff.mp e
  obtain ⟨x, P3, e4, e5, e6⟩ := List.map_eq_cons_iff.mp e3
  obtain ⟨y, P4, e7, e8, e9⟩ := List.map_eq_cons_iff.mp e6
  subst e4 e7 e1
  have f2 : ∀ {u : List (List Q × List Q)} {v}, Full k (u ++ v) → Full k v := by
    intro u
    induction u with
    | nil => intro v h; exact h
    | cons c u ih => intro v h; exact ih h.tail
  have f3 := f2 hf
  have nx := h x (by simp)
  have ny := h y (by simp)
  have l1 := env_len nx.can nx.cost
  have l2 := env_len ny.can ny.cost
  rw [← e5, ← e8]
  have hk := f3.1
  simp only [List.map_append, List.map_cons, List.flatten_append, List.flatten_cons, List.length_append] at hl
  have ny2 := ny.len
  by_cases h7 : 7 ≤ k
  · have : 2 ^ 7 ≤ 2 ^ k := Nat.pow_le_pow_right (by decide) h7
    omega
  · have : 2 ^ k ≤ 2 ^ 6 := Nat.pow_le_pow_right (by decide) (by omega)
    have := ds_pair x.2.length (by omega) y.2.length (by omega) (by omega)
    omega
end Den
namespace Den
open PySem PySem.Spec PyProof.Rows L2
variable {fn : Nat → List D → R D}
def w_at_least_0 : Cmds := (.cons (.set 8 (.call 7 (.cons (.tup (.cons (.var 6) (.cons (.var 7) .nil))) (.cons (.var 4) (.cons (.var 5) .nil))))) (.cons (.if_ (.isN (.var 2)) (.cons (.set 2 (.var 8)) .nil) (.cons (.if_ (.cmp .lt (.var 5) (.bin .sub (.var 3) (.cst (.int 1)))) (.cons (.set 1 (.bin .add (.lst (.cons (.tup (.cons (.bin .add (.var 5) (.cst (.int 1))) (.cons (.bin .sub (.var 3) (.cst (.int 1))) (.cons (.var 2) (.cons (.cst (.int 0)) .nil))))) .nil)) (.var 1))) .nil) .nil) .nil)) (.cons (.if_ (.cmp .lt (.var 7) (.cst (.int 0))) (.cons (.set 2 (.bi .min2 (.cons (.var 2) (.cons (.var 8) .nil)))) (.cons (.set 1 (.bin .add (.lst (.cons (.tup (.cons (.var 4) (.cons (.var 5) (.cons (.var 2) (.cons (.cst (.int 0)) .nil))))) .nil)) (.var 1))) .nil)) (.cons (.set 1 (.bin .add (.call 18 (.cons (.tup (.cons (.var 6) (.cons (.var 7) .nil))) (.cons (.tup (.cons (.var 2) (.cons (.cst (.int 0)) .nil))) (.cons (.var 4) (.cons (.var 5) .nil))))) (.var 1))) (.cons (.set 2 (.bi .min2 (.cons (.var 2) (.cons (.var 6) .nil)))) .nil))) (.cons (.set 3 (.var 4)) (.cons (.kill [4, 5, 6, 7, 8]) .nil)))))
def b_at_least : Cmds := (.cons (.set 1 (.lst .nil)) (.cons (.set 2 (.cst .non)) (.cons (.set 3 (.cst (.int 0))) (.cons (.for_ (.rev (.var 0)) (.many [4, 5, 6, 7]) w_at_least_0) (.cons (.ret (.call 42 (.cons (.var 1) .nil))) .nil)))))
abbrev r_at_least (fn : Nat → List D → R D) : List D → R D := runF fn fuel 9 false b_at_least
theorem r_at_least_eq (fn zs) : r_at_least fn zs = outO false (evCs fn fuel b_at_least (initE 9 zs)) := runF_eq _ _ _ _ _ _
theorem r_at_least_at (fn : Nat → List D → R D) (z0 : D) : r_at_least fn [z0] = outO false (evCs fn fuel b_at_least [some z0, none, none, none, none, none, none, none, none]) := r_at_least_eq fn _
/-! ### at least so much -/
/-- costs of amounts from x on -/
def Suf (r : List Q) (x c : Int) : Prop := ∃ y, x ≤ y ∧ costQ r y = some c
def pcA (q : Q) (m : Int) : List Q := if q.st < 0 then [⟨q.lo, q.hi, min m (q.at q.hi), 0⟩] else lowerR (q.pr, q.st) (m, 0) q.lo q.hi
def nwA (q : Q) (m : Int) : Int := if q.st < 0 then min m (q.at q.hi) else min m q.pr
def gapA (q : Q) (R : List Q) (m b : Int) : List Q := if q.hi < b - 1 then ⟨q.hi + 1, b - 1, m, 0⟩ :: R else R
def alS : List Q → Option (List Q × Int × Int)
  | [] => none
  | q :: r => match alS r with
    | none => some (pcA q (q.at q.hi), nwA q (q.at q.hi), q.lo)
    | some w => some (pcA q w.2.1 ++ gapA q w.1 w.2.1 w.2.2, nwA q w.2.1, q.lo)
def OnA (q : Q) (x c : Int) : Prop := ∃ y, x ≤ y ∧ q.lo ≤ y ∧ y ≤ q.hi ∧ c = q.at y
theorem at_mono {q : Q} (h : 0 ≤ q.st) {x y : Int} (k : x ≤ y) : q.at x ≤ q.at y := by
  have := Int.mul_le_mul_of_nonneg_left (show x - q.lo ≤ y - q.lo by omega) h
  show q.pr + q.st * (x - q.lo) ≤ q.pr + q.st * (y - q.lo)
  omega
theorem at_anti {q : Q} (h : q.st < 0) {x y : Int} (k : x ≤ y) : q.at y ≤ q.at x := by
  have := Int.mul_le_mul_of_nonneg_left (show x - q.lo ≤ y - q.lo by omega) (show 0 ≤ -q.st by omega)
  rw [Int.neg_mul, Int.neg_mul] at this
  show q.pr + q.st * (y - q.lo) ≤ q.pr + q.st * (x - q.lo)
  omega
theorem at_lo (q : Q) : q.at q.lo = q.pr := by show q.pr + q.st * (q.lo - q.lo) = _; rw [Int.sub_self, Int.mul_zero, Int.add_zero]
theorem pcA_ok {q : Q} (h : q.lo ≤ q.hi) (m : Int) : Asc (pcA q m) ∧ (∀ p ∈ pcA q m, q.lo ≤ p.lo ∧ p.hi ≤ q.hi) ∧ (pcA q m).length ≤ 3 ∧ (∀ N, q.bd N → m.natAbs ≤ N → Bd N (pcA q m)) ∧ ∀ x, q.lo ≤ x → x ≤ q.hi → ∃ z, costQ (pcA q m) x = some z ∧ IsMin (fun c => c = m ∨ OnA q x c) (some z) := by
  unfold pcA
  by_cases k : q.st < 0
  · rw [if_pos k]
    refine ⟨asc_cons.mpr ⟨h, (fun _ h => nomatch h), Asc.nil⟩, fun p hp => by rw [List.mem_singleton.mp hp]; exact ⟨Int.le_refl _, Int.le_refl _⟩, by simp, fun N hq hm => bd_cons.mpr ⟨?_, Bd.nil⟩, fun x x1 x2 => ⟨min m (q.at q.hi), ?_, ?_⟩⟩
    · have b1 := hq.lo; have b2 := hq.hi; have b5 := hq.en
      refine ⟨b1, b2, ?_, by simp, ?_⟩
      · show (min m (q.at q.hi)).natAbs ≤ N; omega
      · show (min m (q.at q.hi) + 0 * _).natAbs ≤ N
        rw [Int.zero_mul]; omega
    · rw [costQ, if_pos ⟨x1, x2⟩]
      show some (min m (q.at q.hi) + 0 * _) = _
      rw [Int.zero_mul, Int.add_zero]
    · constructor
      · rintro c (e | ⟨y, y1, y2, y3, e⟩)
        · exact ⟨_, rfl, by omega⟩
        · have := at_anti k y3
          exact ⟨_, rfl, by omega⟩
      · intro z hz
        cases hz
        by_cases g : m ≤ q.at q.hi
        · exact .inl (by omega)
        · exact .inr ⟨q.hi, x2, h, Int.le_refl _, by omega⟩
  · rw [if_neg k]
    obtain ⟨a1, a2, a3, a4, a5⟩ := lower_ok (q.pr, q.st) (m, 0) q.lo q.hi h
    refine ⟨a1, a2, a3, fun N hq hm => a4 N hq ?_, fun x x1 x2 => ⟨min (q.at x) m, ?_, ?_⟩⟩
    · have b1 := hq.lo; have b2 := hq.hi
      refine ⟨b1, b2, hm, by simp, ?_⟩
      show (m + 0 * _).natAbs ≤ N
      rw [Int.zero_mul, Int.add_zero]; exact hm
    · rw [a5 x, if_pos ⟨x1, x2⟩]
      show some (min (q.pr + q.st * (x - q.lo)) (m + 0 * (x - q.lo))) = _
      rw [Int.zero_mul, Int.add_zero]; rfl
    · constructor
      · rintro c (e | ⟨y, y1, y2, y3, e⟩)
        · exact ⟨_, rfl, by omega⟩
        · have := at_mono (q := q) (by omega) y1
          exact ⟨_, rfl, by omega⟩
      · intro z hz
        cases hz
        by_cases g : m ≤ q.at x
        · exact .inl (by omega)
        · exact .inr ⟨x, Int.le_refl _, x1, x2, by omega⟩
theorem nwA_ok {q : Q} (h : q.lo ≤ q.hi) (m : Int) : IsMin (fun c => c = m ∨ OnA q q.lo c) (some (nwA q m)) ∧ ∀ N, q.bd N → m.natAbs ≤ N → (nwA q m).natAbs ≤ N := by
  unfold nwA
  by_cases k : q.st < 0
  · rw [if_pos k]
    refine ⟨⟨?_, fun z hz => ?_⟩, fun N hq hm => by have := hq.en; omega⟩
    · rintro c (e | ⟨y, y1, y2, y3, e⟩)
      · exact ⟨_, rfl, by omega⟩
      · have := at_anti k y3
        exact ⟨_, rfl, by omega⟩
    · cases hz
      by_cases g : m ≤ q.at q.hi
      · exact .inl (by omega)
      · exact .inr ⟨q.hi, h, h, Int.le_refl _, by omega⟩
  · rw [if_neg k]
    refine ⟨⟨?_, fun z hz => ?_⟩, fun N hq hm => by have := hq.pr; omega⟩
    · rintro c (e | ⟨y, y1, y2, y3, e⟩)
      · exact ⟨_, rfl, by omega⟩
      · have := at_mono (q := q) (by omega) y1
        rw [at_lo] at this
        exact ⟨_, rfl, by omega⟩
    · cases hz
      by_cases g : m ≤ q.pr
      · exact .inl (by omega)
      · exact .inr ⟨q.lo, Int.le_refl _, Int.le_refl _, h, by rw [at_lo]; omega⟩
theorem min_join {S T : Int → Prop} {m : Int} {o : Option Int} (h : IsMin S (some m)) (k : IsMin (fun c => c = m ∨ T c) o) : IsMin (fun c => S c ∨ T c) o := by
  constructor
  · rintro c (q | q)
    · obtain ⟨z, e, l⟩ := h.le c q
      cases e
      obtain ⟨w, e, l2⟩ := k.le m (.inl rfl)
      exact ⟨w, e, by omega⟩
    · exact k.le c (.inr q)
  · intro z e
    rcases k.at_ z e with q | q
    · rw [q]; exact .inl (h.at_ m rfl)
    · exact .inr q
structure SufOf (r R : List Q) (b B : Int) : Prop where
  asc : Asc R
  in_ : ∀ p ∈ R, b ≤ p.lo ∧ p.hi ≤ B
  cov : ∀ x, b ≤ x → x ≤ B → ∃ z, costQ R x = some z ∧ IsMin (Suf r x) (some z)
theorem suf_cons {q : Q} {r : List Q} (h : Asc (q :: r)) {x c : Int} : Suf (q :: r) x c ↔ Suf r x c ∨ OnA q x c := by
  obtain ⟨h1, h2, h3⟩ := asc_cons.mp h
  constructor
  · rintro ⟨y, y1, e⟩
    rw [costQ] at e
    by_cases k : q.lo ≤ y ∧ y ≤ q.hi
    · rw [if_pos k] at e
      cases e
      exact .inr ⟨y, y1, k.1, k.2, rfl⟩
    · rw [if_neg k] at e
      exact .inl ⟨y, y1, e⟩
  · rintro (⟨y, y1, e⟩ | ⟨y, y1, y2, y3, e⟩)
    · refine ⟨y, y1, ?_⟩
      obtain ⟨p, hp, p1, p2, _⟩ := costQ_some e
      have := h2 p hp
      rw [costQ, if_neg (by omega)]; exact e
    · exact ⟨y, y1, by rw [costQ, if_pos ⟨y2, y3⟩, e]⟩
theorem cost_app {A B : List Q} {a b c : Int} (hA : ∀ p ∈ A, a ≤ p.lo ∧ p.hi ≤ b) (hB : ∀ p ∈ B, b < p.lo) (x : Int) : costQ (A ++ B) x = if x ≤ b then costQ A x else costQ B x := by
  induction A with
  | nil =>
    rw [List.nil_append]
    by_cases k : x ≤ b
    · rw [if_pos k]
      exact costQ_none fun p hp q => by have := hB p hp; omega
    · rw [if_neg k]
  | cons p A ih =>
    have ih := ih fun r hr => hA r (.tail _ hr)
    rw [List.cons_append, costQ, ih, costQ]
    have := hA p (.head _)
    by_cases k : p.lo ≤ x ∧ x ≤ p.hi
    · rw [if_pos k, if_pos k, if_pos (by omega)]
    · rw [if_neg k, if_neg k]
theorem al_ok {N : Nat} : ∀ {r : List Q}, r ≠ [] → Asc r → Bd N r → ∃ R m b B, alS r = some (R, m, b) ∧ (∃ q t, r = q :: t ∧ b = q.lo) ∧ (∃ p, r.getLast? = some p ∧ B = p.hi) ∧ b ≤ B ∧ SufOf r R b B ∧ IsMin (Suf r b) (some m) ∧ m.natAbs ≤ N ∧ Bd N R ∧ R.length ≤ 4 * r.length
  | [], h, _, _ => absurd rfl h
  | [q], _, ha, hb => by
    have w := ha.w q (.head _)
    have bq := (bd_cons.mp hb).1
    obtain ⟨a1, a2, a3, a4, a5⟩ := pcA_ok w (q.at q.hi)
    obtain ⟨n1, n2⟩ := nwA_ok w (q.at q.hi)
    have one : ∀ x o, x ≤ q.hi → IsMin (fun c => c = q.at q.hi ∨ OnA q x c) o → IsMin (Suf [q] x) o := fun x o hx h => h.congr fun c => by
      rw [suf_cons ha]
      constructor
      · rintro (e | e)
        · exact .inr ⟨q.hi, hx, w, Int.le_refl _, e⟩
        · exact .inr e
      · rintro (⟨y, _, e⟩ | e)
        · cases e
        · exact .inr e
    refine ⟨_, _, _, q.hi, rfl, ⟨q, [], rfl, rfl⟩, ⟨q, rfl, rfl⟩, w, ⟨a1, a2, fun x x1 x2 => ?_⟩, one _ _ w n1, n2 N bq bq.en, a4 N bq bq.en, by simp; omega⟩
    obtain ⟨z, z1, z2⟩ := a5 x x1 x2
    exact ⟨z, z1, one _ _ x2 z2⟩
  | q :: p :: t, _, ha, hb => by
    obtain ⟨w, hlt, har⟩ := asc_cons.mp ha
    obtain ⟨bq, br⟩ := bd_cons.mp hb
    obtain ⟨R, m, b, B, e, ⟨q1, t1, e1, e2⟩, ⟨p1, e3, e4⟩, bB, so, mn, mb, rb, rl⟩ := al_ok (r := p :: t) (by simp) har br
    have eb : b = p.lo := by rw [e2]; rw [(List.cons.inj e1).1]
    have qb : q.hi < b := by rw [eb]; exact hlt p (.head _)
    obtain ⟨a1, a2, a3, a4, a5⟩ := pcA_ok w m
    obtain ⟨n1, n2⟩ := nwA_ok w m
    have bp := br p (.head _)
    have b1 := bq.hi; have b2 := bp.lo
    -- the rest of it, from behind q on
    have sufb : ∀ x, x ≤ b → ∀ c, Suf (p :: t) x c ↔ Suf (p :: t) b c := fun x hx c => by
      constructor
      · rintro ⟨y, _, k⟩
        obtain ⟨d, hd, d1, d2, _⟩ := costQ_some k
        have : b ≤ d.lo := by
          rw [eb]
          rcases List.mem_cons.mp hd with k | k
          · rw [k]; exact Int.le_refl _
          · have := (asc_cons.mp har).2.1 d k; have := (asc_cons.mp har).1; omega
        exact ⟨y, by omega, k⟩
      · rintro ⟨y, y1, k⟩; exact ⟨y, by omega, k⟩
    obtain ⟨G, hG⟩ : ∃ G, G = gapA q R m b := ⟨_, rfl⟩
    have gs : Asc G ∧ (∀ d ∈ G, q.hi < d.lo ∧ d.hi ≤ B) ∧ (∀ x, q.hi < x → x ≤ B → ∃ z, costQ G x = some z ∧ IsMin (Suf (p :: t) x) (some z)) ∧ Bd N G ∧ G.length ≤ R.length + 1 := by
      rw [hG]
      unfold gapA
      by_cases k : q.hi < b - 1
      · rw [if_pos k]
        refine ⟨asc_cons.mpr ⟨by simp only; omega, fun d hd => by have := so.in_ d hd; simp only; omega, so.asc⟩, fun d hd => ?_, fun x x1 x2 => ?_, bd_cons.mpr ⟨⟨?_, ?_, mb, by simp, ?_⟩, rb⟩, by simp⟩
        · rcases List.mem_cons.mp hd with k2 | k2
          · rw [k2]; simp only; omega
          · have := so.in_ d k2; omega
        · rw [costQ]
          by_cases k2 : q.hi + 1 ≤ x ∧ x ≤ b - 1
          · rw [if_pos k2]
            refine ⟨m, ?_, mn.congr fun c => (sufb x (by omega) c).symm⟩
            show some (m + 0 * _) = _
            rw [Int.zero_mul, Int.add_zero]
          · rw [if_neg k2]
            exact so.cov x (by omega) x2
        · show (q.hi + 1).natAbs ≤ N; omega
        · show (b - 1).natAbs ≤ N; omega
        · show (m + 0 * _).natAbs ≤ N
          rw [Int.zero_mul, Int.add_zero]; exact mb
      · rw [if_neg k]
        exact ⟨so.asc, fun d hd => by have := so.in_ d hd; omega, fun x x1 x2 => so.cov x (by omega) x2, rb, by omega⟩
    obtain ⟨g1, g2, g3, g4, g5⟩ := gs
    have ca := cost_app (a := q.lo) (c := 0) a2 (fun d hd => (g2 d hd).1)
    refine ⟨pcA q m ++ G, nwA q m, q.lo, B, ?_, ⟨q, _, rfl, rfl⟩, ⟨p1, ?_, e4⟩, by omega, ⟨?_, ?_, fun x x1 x2 => ?_⟩, ?_, n2 N bq mb, ?_, ?_⟩
    · rw [alS, e, hG]
    · rw [List.getLast?_cons_cons]; exact e3
    · exact asc_app.mpr ⟨a1, g1, fun d hd c hc => by have := a2 d hd; have := g2 c hc; omega⟩
    · intro d hd
      rcases List.mem_append.mp hd with k | k
      · have := a2 d k; omega
      · have := g2 d k; omega
    · rw [ca x]
      by_cases k : x ≤ q.hi
      · rw [if_pos k]
        obtain ⟨z, z1, z2⟩ := a5 x x1 k
        refine ⟨z, z1, (min_join (mn.congr fun c => (sufb x (by omega) c).symm) z2).congr fun c => (suf_cons ha).symm⟩
      · rw [if_neg k]
        obtain ⟨z, z1, z2⟩ := g3 x (by omega) x2
        refine ⟨z, z1, z2.congr fun c => ?_⟩
        rw [suf_cons ha]
        constructor
        · exact .inl
        · rintro (h | ⟨y, y1, y2, y3, _⟩)
          · exact h
          · omega
    · exact (min_join (mn.congr fun c => (sufb q.lo (by omega) c).symm) n1).congr fun c => (suf_cons ha).symm
    · intro d hd
      rcases List.mem_append.mp hd with k | k
      · exact a4 N bq mb d k
      · exact g4 d k
    · rw [List.length_append, List.length_cons]
      omega
def alE (FD : D) (o : Option (List Q × Int × Int)) : Env := match o with
  | none => [some FD, some (.lst []), some .non, some (.int 0), none, none, none, none, none]
  | some w => [some FD, some (.lst (w.1.map Q.d)), some (.int w.2.1), some (.int w.2.2), none, none, none, none, none]
def alR (r : List Q) : List Q := match alS r with
  | none => []
  | some w => w.1
def S_at_least (f : List D → R D) : Prop := ∀ (r : List Q) (N : Nat), Asc r → Bd N r → N ≤ Hg → r.length ≤ 1000 → f [fD r] = .ok (fD (laidQ (alR r)))
theorem at_least_sp (h_line_at : S_line_at (fn 7)) (h_lower_line : S_lower_line (fn 18)) (h_laid : S_laid (fn 42)) : S_at_least (r_at_least fn) := fun r0 N ha0 hb0 hN hl0 => by
  have g := Hg_pos
  rw [r_at_least_at]
  have step : ∀ (FD : D) (q : Q) (r : List Q), Asc (q :: r) → Bd N (q :: r) → r.length ≤ 1000 → thenO (bindT (alE FD (alS r)) (.many [4, 5, 6, 7]) q.d) (alE FD (alS r)) (fun ρ' => evCs fn fuel w_at_least_0 ρ') = .nx (alE FD (alS (q :: r))) := fun FD q r ha hb hl => by
    obtain ⟨w, hlt, har⟩ := asc_cons.mp ha
    obtain ⟨bq, br⟩ := bd_cons.mp hb
    have b1 := bq.lo; have b2 := bq.hi; have b3 := bq.pr; have b4 := bq.st
    have mq : mulOk q.st (q.hi - q.lo) = true := mulH (by omega) (by clear bq; omega)
    have la : fn 7 [.tup [.int q.pr, .int q.st], .int q.lo, .int q.hi] = .ok (.int (q.at q.hi)) := h_line_at q.pr q.st q.lo q.hi mq
    have lw : ∀ m : Int, fn 18 [.tup [.int q.pr, .int q.st], .tup [.int m, .int 0], .int q.lo, .int q.hi] = .ok (.lst ((lowerR (q.pr, q.st) (m, 0) q.lo q.hi).map Q.d)) := fun m => h_lower_line (q.pr, q.st) (m, 0) q.lo q.hi (by simp only; omega) (by simp) (by clear bq; omega) w
    have l3 : ∀ m : Int, (lowerR (q.pr, q.st) (m, 0) q.lo q.hi).length ≤ 3 := fun m => (lower_ok (q.pr, q.st) (m, 0) q.lo q.hi w).2.2.1
    rcases List.eq_nil_or_concat r with e | ⟨r1, p1, e⟩
    · subst e
      have lw := lw (q.at q.hi)
      have l3 := l3 (q.at q.hi)
      show thenO (bindT [some FD, some (.lst []), some .non, some (.int 0), none, none, none, none, none] (.many [4, 5, 6, 7]) q.d) _ _ = .nx (alE FD (some (pcA q (q.at q.hi), nwA q (q.at q.hi), q.lo)))
      unfold alE pcA nwA
      generalize q.at q.hi = z at *
      unfold Q.d
      rw [bind_many _ _ _ rfl]
      by_cases k : q.st < 0
      · rw [if_pos k, if_pos k]
        simp [w_at_least_0, la, k, Q.d]
      · rw [if_neg k, if_neg k]
        generalize hLW : lowerR (q.pr, q.st) (z, 0) q.lo q.hi = LW at *
        have ll : LW.length ≤ 16777216 := by omega
        unfold Q.d at lw
        simp [w_at_least_0, la, k, lw, ll]
    · have ne : r ≠ [] := fun q => by rw [q] at e; simp at e
      obtain ⟨R, m, b, B, ea, _, _, _, _, _, _, _, rl⟩ := al_ok (N := N) ne har br
      have lw := lw m
      have l3 := l3 m
      have eS : alS (q :: r) = some (pcA q m ++ gapA q R m b, nwA q m, q.lo) := by rw [alS, ea]
      rw [eS, ea]
      show thenO (bindT [some FD, some (.lst (R.map Q.d)), some (.int m), some (.int b), none, none, none, none, none] (.many [4, 5, 6, 7]) q.d) _ _ = _
      unfold alE pcA nwA gapA
      have lR : (R.map Q.d).length = R.length := List.length_map ..
      generalize q.at q.hi = z at *
      have lL : ((lowerR (q.pr, q.st) (m, 0) q.lo q.hi).map Q.d).length ≤ 3 := by rw [List.length_map]; exact l3
      by_cases k2 : q.hi < b - 1
      · rw [if_pos k2]
        by_cases k : q.st < 0
        · rw [if_pos k, if_pos k]
          show _ = O.nx [some FD, some (.lst ([Q.d ⟨q.lo, q.hi, min m z, 0⟩] ++ (Q.d ⟨q.hi + 1, b - 1, m, 0⟩ :: R.map Q.d))), some (.int (min m z)), some (.int q.lo), none, none, none, none, none]
          generalize R.map Q.d = RD at *
          have l1 : 1 + RD.length ≤ 16777216 := by omega
          have l2 : 1 + (RD.length + 1) ≤ 16777216 := by omega
          unfold Q.d
          rw [bind_many _ _ _ rfl]
          simp [w_at_least_0, la, k, k2, l1, l2]
        · rw [if_neg k, if_neg k]
          show _ = O.nx [some FD, some (.lst ((lowerR (q.pr, q.st) (m, 0) q.lo q.hi ++ ⟨q.hi + 1, b - 1, m, 0⟩ :: R).map Q.d)), some (.int (min m q.pr)), some (.int q.lo), none, none, none, none, none]
          rw [List.map_append, List.map_cons]
          generalize (lowerR (q.pr, q.st) (m, 0) q.lo q.hi).map Q.d = LD at *
          generalize R.map Q.d = RD at *
          have l1 : 1 + RD.length ≤ 16777216 := by omega
          have l2 : LD.length + (RD.length + 1) ≤ 16777216 := by omega
          unfold Q.d
          rw [bind_many _ _ _ rfl]
          simp [w_at_least_0, la, k, k2, lw, l1, l2]
      · rw [if_neg k2]
        by_cases k : q.st < 0
        · rw [if_pos k, if_pos k]
          show _ = O.nx [some FD, some (.lst ([Q.d ⟨q.lo, q.hi, min m z, 0⟩] ++ R.map Q.d)), some (.int (min m z)), some (.int q.lo), none, none, none, none, none]
          generalize R.map Q.d = RD at *
          have l1 : 1 + RD.length ≤ 16777216 := by omega
          unfold Q.d
          rw [bind_many _ _ _ rfl]
          simp [w_at_least_0, la, k, k2, l1]
        · rw [if_neg k, if_neg k]
          show _ = O.nx [some FD, some (.lst ((lowerR (q.pr, q.st) (m, 0) q.lo q.hi ++ R).map Q.d)), some (.int (min m q.pr)), some (.int q.lo), none, none, none, none, none]
          rw [List.map_append]
          generalize (lowerR (q.pr, q.st) (m, 0) q.lo q.hi).map Q.d = LD at *
          generalize R.map Q.d = RD at *
          have l2 : LD.length + RD.length ≤ 16777216 := by omega
          unfold Q.d
          rw [bind_many _ _ _ rfl]
          simp [w_at_least_0, la, k, k2, lw, l2]
  have loop : ∀ (l r : List Q), Asc (l.reverse ++ r) → Bd N (l.reverse ++ r) → l.length + r.length ≤ 1000 → forL (fun ρ x => thenO (bindT ρ (.many [4, 5, 6, 7]) x) ρ fun ρ' => evCs fn fuel w_at_least_0 ρ') (l.map Q.d) (alE (fD r0) (alS r)) = .nx (alE (fD r0) (alS (l.reverse ++ r))) := by
    intro l
    induction l with
    | nil => intro r _ _ _; rfl
    | cons q l ih =>
      intro r ha hb hl
      rw [List.length_cons] at hl
      rw [List.reverse_cons, List.append_assoc] at ha hb ⊢
      rw [List.map_cons, forL_nx (step (fD r0) q r (asc_app.mp ha).2.1 (fun p hp => hb p (List.mem_append_right _ hp)) (by omega))]
      exact ih (q :: r) ha hb (by rw [List.length_cons]; omega)
  have k := loop r0.reverse [] (by rw [List.reverse_reverse, List.append_nil]; exact ha0) (by rw [List.reverse_reverse, List.append_nil]; exact hb0) (by rw [List.length_reverse]; simpa using hl0)
  rw [List.reverse_reverse, List.append_nil] at k
  have lay : fn 42 [.lst ((alR r0).map Q.d)] = .ok (fD (laidQ (alR r0))) := by
    unfold alR
    rcases List.eq_nil_or_concat r0 with e | ⟨r1, p1, e⟩
    · rw [e]; exact h_laid (.lst []) [] 0 rfl Asc.nil Bd.nil (by omega) (by simp)
    · have ne : r0 ≠ [] := fun q => by rw [q] at e; simp at e
      obtain ⟨R, m, b, B, ea, _, _, _, so, _, _, rb, rl⟩ := al_ok (N := N) ne ha0 hb0
      rw [ea]
      exact h_laid (.lst (R.map Q.d)) R N rfl so.asc rb hN (by omega)
  have fin : ∃ z1 z2 : D, alE (fD r0) (alS r0) = [some (fD r0), some (.lst ((alR r0).map Q.d)), some z1, some z2, none, none, none, none, none] := by
    unfold alR alE
    cases alS r0 with
    | none => exact ⟨_, _, rfl⟩
    | some w => exact ⟨_, _, rfl⟩
  obtain ⟨z1, z2, fin⟩ := fin
  rw [fin] at k
  refine out_of (go_set (z := .lst ([] : List D)) rfl (go_set (z := .non) rfl (go_set (z := .int 0) rfl (go_for (xs := r0.reverse.map Q.d) ?_ k (go_ret ?_)))))
  · rw [List.map_reverse]
    unfold fD
    simp [items]
  · generalize fD r0 = FD at *
    generalize D.lst ((alR r0).map Q.d) = RD at *
    simp [lay]
end Den
namespace Den
open PySem PySem.Spec PyProof.Rows L2
variable {fn : Nat → List D → R D}
theorem sm_take {ns : List Int} (h : ∀ c ∈ ns, Sm c) (n : Nat) : ∀ c ∈ ns.take n, Sm c := fun c hc => h c (List.mem_of_mem_take hc)
theorem sm_drop {ns : List Int} (h : ∀ c ∈ ns, Sm c) (n : Nat) : ∀ c ∈ ns.drop n, Sm c := fun c hc => h c (List.mem_of_mem_drop hc)
theorem sm_45 {cs : List Int} (h : ∀ c ∈ cs, 0 ≤ c ∧ c < 10 ^ 45) : ∀ c ∈ cs, Sm c := fun c hc => Sm.of_lt (by have := h c hc; omega)
def S_law_two (f : List D → R D) : Prop := ∀ (ns : List Int) (a m : Nat), (∀ c ∈ ns, Sm c) → ns.length ≤ 1000 → 0 < m → m ≤ 1000 → ∃ A B : List Q, f [.lst (ns.map .int), .int a, .int m] = .ok (.tup [fD A, fD B]) ∧ Can A ∧ Can B ∧ Bd (2 ^ 240) A ∧ Bd (2 ^ 240) B ∧ A.length ≤ m ∧ B.length ≤ m
theorem law_two_sp (h_law_cell : S_law_cell (fn 24)) (h_law_numbers_3 : S_law_numbers_3 (fn 59)) (h_law_start : S_law_start (fn 34)) (h_law_form : S_law_form (fn 35)) : S_law_two (r_law_two fn) := fun ns a m hs hl hm hm2 => by
  obtain ⟨cs, e1, l1, b1⟩ := h_law_numbers_3 ns a m hs hl hm
  have c0 := cell_0 h_law_cell ns
  have c1 := cell_1 h_law_cell ns
  obtain ⟨s, e2, bs⟩ := h_law_start (cellAt ns 0)
  have sc := sm_45 b1
  generalize cellAt ns 1 = c at *
  have kb := fmod_bounds (a := c) (b := (cs.length : Int) + 1) (by omega)
  generalize hk : c.fmod ((cs.length : Int) + 1) = k at kb
  obtain ⟨n, rfl⟩ := Int.eq_ofNat_of_zero_le kb.1
  have hz : ¬ (cs.length : Int) + 1 = 0 := by omega
  have d50 : divOk 50 = true := by decide +kernel
  have d450 : divOk 450 = true := by decide +kernel
  have d2250 : divOk 2250 = true := by decide +kernel
  have w30 : powOk 10 30 = true := by decide +kernel
  have u30 : mulOk 2 1000000000000000000000000000000 = true := by decide +kernel
  have q1 := fmod_bounds (a := c.fdiv 50) (b := 9) (by decide)
  have q2 := fmod_bounds (a := c.fdiv 2250) (b := 2000000000000000000000000000000) (by decide)
  have s1 := slice_to D.int cs n
  have s2 := slice_from D.int cs n
  obtain ⟨A, eA, cA, lA, bA⟩ := h_law_form (cs.take n) s (by rw [List.length_take]; omega) (sm_take sc n) (by omega)
  by_cases h : (c.fdiv 450).fmod 5 = 1
  · obtain ⟨B, eB, cB, lB, bB⟩ := h_law_form (cs.drop n) (s + ((c.fdiv 2250).fmod 2000000000000000000000000000000 - 1000000000000000000000000000000)) (by rw [List.length_drop]; omega) (sm_drop sc n) (by omega)
    refine ⟨A, B, ?_, cA, cB, bA, bB, by rw [lA, List.length_take]; omega, by rw [lB, List.length_drop]; omega⟩
    simp [-List.map_take, -List.map_drop, r_law_two_eq, b_law_two, initE, e1, c0, c1, e2, hk, hz, s1, s2, eA, eB, d50, d450, d2250, w30, u30, h]
  · obtain ⟨B, eB, cB, lB, bB⟩ := h_law_form (cs.drop n) (s + ((c.fdiv 50).fmod 9 - 4)) (by rw [List.length_drop]; omega) (sm_drop sc n) (by omega)
    refine ⟨A, B, ?_, cA, cB, bA, bB, by rw [lA, List.length_take]; omega, by rw [lB, List.length_drop]; omega⟩
    simp [-List.map_take, -List.map_drop, r_law_two_eq, b_law_two, initE, e1, c0, c1, e2, hk, hz, s1, s2, eA, eB, d50, d450, d2250, w30, u30, h]
/-- 2 ^ 240 and what comes of it stay within the bound -/
theorem hg240 : 2 ^ 240 * 64 ≤ Hg := Nat.le_trans (by decide) (le_Hg (k := 246) (by decide))
def b_law_amount_2 : Cmds := (.cons (.if_ (.or_ (.cmp .eq (.bi .len (.cons (.var 0) .nil)) (.cst (.int 0))) (.cmp .eq (.bin .mod (.var 1) (.cst (.int 4))) (.cst (.int 3)))) (.cons (.ret (.bin .sub (.bin .mod (.bin .fdiv (.var 1) (.cst (.int 4))) (.bin .mul (.cst (.int 2)) (.bin .pow (.cst (.int 10)) (.cst (.int 51))))) (.bin .pow (.cst (.int 10)) (.cst (.int 51))))) .nil) .nil) (.cons (.set 2 (.ix (.var 0) (.bin .mod (.bin .mod (.bin .mul (.bin .fdiv (.var 1) (.cst (.int 4))) (.cst (.int 16807))) (.cst (.int 1009))) (.bi .len (.cons (.var 0) .nil))))) (.cons (.if_ (.cmp .eq (.bin .mod (.var 1) (.cst (.int 4))) (.cst (.int 2))) (.cons (.ret (.bin .add (.ix (.var 2) (.cst (.int 0))) (.bin .mod (.bin .fdiv (.var 1) (.cst (.int 4))) (.bin .add (.bin .sub (.ix (.var 2) (.cst (.int 1))) (.ix (.var 2) (.cst (.int 0)))) (.cst (.int 1)))))) .nil) .nil) (.cons (.ret (.bin .sub (.bin .add (.ix (.var 2) (.bin .mod (.var 1) (.cst (.int 4)))) (.bin .mod (.bin .fdiv (.var 1) (.cst (.int 4))) (.cst (.int 3)))) (.cst (.int 1)))) .nil))))
abbrev r_law_amount_2 (fn : Nat → List D → R D) : List D → R D := runF fn fuel 3 false b_law_amount_2
theorem r_law_amount_2_eq (fn zs) : r_law_amount_2 fn zs = outO false (evCs fn fuel b_law_amount_2 (initE 3 zs)) := runF_eq _ _ _ _ _ _
theorem r_law_amount_2_at (fn : Nat → List D → R D) (z0 z1 : D) : r_law_amount_2 fn [z0, z1] = outO false (evCs fn fuel b_law_amount_2 [some z0, some z1, none]) := r_law_amount_2_eq fn _
def x_law_count_2_0 : Ex := (.bin .add (.bin .sub (.ix (.var 1) (.cst (.int 1))) (.ix (.var 1) (.cst (.int 0)))) (.cst (.int 1)))
def b_law_count_2 : Cmds := (.cons (.ret (.bi .sum (.cons (.comp (.seq (.var 0)) (.one 1) [1] x_law_count_2_0) .nil))) .nil)
abbrev r_law_count_2 (fn : Nat → List D → R D) : List D → R D := runF fn fuel 2 false b_law_count_2
theorem r_law_count_2_eq (fn zs) : r_law_count_2 fn zs = outO false (evCs fn fuel b_law_count_2 (initE 2 zs)) := runF_eq _ _ _ _ _ _
theorem r_law_count_2_at (fn : Nat → List D → R D) (z0 : D) : r_law_count_2 fn [z0] = outO false (evCs fn fuel b_law_count_2 [some z0, none]) := r_law_count_2_eq fn _
theorem sum_comp {it : Itr} {tg : Tg} {own : List Nat} {e : Ex} {ρ : Env} {α : Type} {k : α → D} {g : α → Int} {xs : List α} (h : evi fn it ρ = .ok (xs.map k)) (hl : xs.length ≤ 16777216)
    (hx : ∀ x ∈ xs, (bindT (wipeE ρ own) tg (k x)).bind (fun ρ' => (ev fn e ρ').bind fun d => .ok (some d)) = .ok (some (.int (g x)))) : ev fn (.bi .sum (.cons (.comp it tg own e) .nil)) ρ = .ok (.int (xs.map g).sum) := by
  have c := comp_map (g := fun x => D.int (g x)) h hl hx
  have e2 : (xs.map fun x => D.int (g x)) = (xs.map g).map D.int := by rw [List.map_map]; rfl
  rw [ev_bi, evs_cons, c, R.bind_ok, evs_nil, R.bind_ok, R.bind_ok, e2]
  unfold biD
  simp only [dInts_of, someR_some, R.bind_ok]
theorem cnt_sum (l : List Q) : (l.map fun q => q.hi - q.lo + 1).sum = cntQ l := by
  induction l with
  | nil => rfl
  | cons q r ih => rw [List.map_cons, List.sum_cons, ih, cntQ]
def S_law_count_2 (f : List D → R D) : Prop := ∀ l : List Q, l.length ≤ 1000000 → f [fD l] = .ok (.int (cntQ l))
theorem law_count_2_sp : S_law_count_2 (r_law_count_2 fn) := fun l hl => by
  have c : ev fn (.bi .sum (.cons (.comp (.seq (.var 0)) (.one 1) [1] x_law_count_2_0) .nil)) [some (fD l), none] = .ok (.int (l.map fun q => q.hi - q.lo + 1).sum) :=
    sum_comp (k := Q.d) (by simp) (by omega) fun q _ => by simp [x_law_count_2_0]
  rw [cnt_sum] at c
  rw [r_law_count_2_eq]
  exact out_of (go_ret c)
def S_law_amount_2 (f : List D → R D) : Prop := ∀ (l : List Q) (c : Int) (N : Nat), Asc l → Bd N l → Sm c → ∃ x : Int, f [fD l, .int c] = .ok (.int x) ∧ x.natAbs ≤ N + 2 ^ 171
theorem law_amount_2_sp : S_law_amount_2 (r_law_amount_2 fn) := fun l c N ha hb hc => by
  have d4 : divOk 4 = true := by decide +kernel
  have p51 : powOk 10 51 = true := by decide +kernel
  have u51 : mulOk 2 1000000000000000000000000000000000000000000000000000 = true := by decide +kernel
  have b0 := fmod_bounds (a := c) (b := 4) (by decide)
  have b1 := fmod_bounds (a := c.fdiv 4) (b := 2000000000000000000000000000000000000000000000000000) (by decide)
  have b2 := fmod_bounds (a := c.fdiv 4) (b := 3) (by decide)
  have first : ∀ (h : l = [] ∨ c.fmod 4 = 3), ∃ x : Int, r_law_amount_2 fn [fD l, .int c] = .ok (.int x) ∧ x.natAbs ≤ N + 2 ^ 171 := fun h => by
    refine ⟨(c.fdiv 4).fmod 2000000000000000000000000000000000000000000000000000 - 1000000000000000000000000000000000000000000000000000, ?_, by omega⟩
    rcases h with h | h
    · subst h; simp [r_law_amount_2_eq, b_law_amount_2, initE, d4, p51, u51]
    · by_cases h0 : l = []
      · subst h0; simp [r_law_amount_2_eq, b_law_amount_2, initE, d4, p51, u51]
      · simp [r_law_amount_2_eq, b_law_amount_2, initE, h, h0, d4, p51, u51]
  by_cases h0 : l = []
  · exact first (.inl h0)
  by_cases h3 : c.fmod 4 = 3
  · exact first (.inr h3)
  have sd : Sm (c.fdiv 4) := hc.fdiv (by decide)
  have m1 := sd.mul (j := 16807) (by decide)
  have hpos : (0 : Int) < (l.length : Int) := by
    have := List.length_pos_iff.mpr h0; omega
  have jb := fmod_bounds (a := (c.fdiv 4 * 16807).fmod 1009) hpos
  obtain ⟨q, qm, hi⟩ := pickQ l jb.1 jb.2
  have hz : ¬ l.length = 0 := by omega
  have bq := hb q qm
  have wq := ha.w q qm
  have z1 := bq.lo; have z2 := bq.hi
  by_cases h2 : c.fmod 4 = 2
  · have b3 := fmod_bounds (a := c.fdiv 4) (b := q.hi - q.lo + 1) (by omega)
    have hz2 : ¬ q.hi - q.lo + 1 = 0 := by omega
    exact ⟨q.lo + (c.fdiv 4).fmod (q.hi - q.lo + 1), by simp [r_law_amount_2_eq, b_law_amount_2, initE, h0, h2, d4, m1, hi, hz2], by omega⟩
  · by_cases h4 : c.fmod 4 = 0
    · exact ⟨q.lo + (c.fdiv 4).fmod 3 - 1, by simp [r_law_amount_2_eq, b_law_amount_2, initE, h0, h4, d4, m1, hi], by omega⟩
    · have h5 : c.fmod 4 = 1 := by omega
      exact ⟨q.hi + (c.fdiv 4).fmod 3 - 1, by simp [r_law_amount_2_eq, b_law_amount_2, initE, h0, h5, d4, m1, hi], by omega⟩
theorem Sm.grow {a c : Int} (h : Sm c) (k : a.natAbs ≤ 4 * c.natAbs + 100) {j : Int} (hj : j.natAbs < 2 ^ 250) : mulOk a j = true := by
  have h1 : c.natAbs < 2 ^ (c.natAbs.log2 + 1) := Nat.lt_log2_self
  unfold Sm at h
  generalize c.natAbs.log2 = L at *
  refine mulOk_of (L + 9) 250 ?_ hj (by omega)
  have e : 2 ^ (L + 9) = 256 * 2 ^ (L + 1) := by rw [show L + 9 = 8 + (L + 1) by omega, Nat.pow_add]
  have p : 1 ≤ 2 ^ (L + 1) := Nat.pow_pos (by decide)
  rw [e]; omega
end Den
namespace Den
open PySem PySem.Spec PyProof.Rows L2
variable {fn : Nat → List D → R D}
def w_law_no_gap_0 : Cmds := (.cons (.if_ (.cmp .ne (.ix (.var 4) (.cst (.int 0))) (.var 3)) (.cons (.ret (.cst (.bl false))) .nil) .nil) (.cons (.set 3 (.bin .add (.ix (.var 4) (.cst (.int 1))) (.cst (.int 1)))) (.cons (.kill [4]) .nil)))
def b_law_no_gap : Cmds := (.cons (.set 3 (.var 1)) (.cons (.for_ (.seq (.var 0)) (.one 4) w_law_no_gap_0) (.cons (.ret (.cmp .eq (.var 3) (.bin .add (.var 2) (.cst (.int 1))))) .nil)))
abbrev r_law_no_gap (fn : Nat → List D → R D) : List D → R D := runF fn fuel 5 false b_law_no_gap
theorem r_law_no_gap_eq (fn zs) : r_law_no_gap fn zs = outO false (evCs fn fuel b_law_no_gap (initE 5 zs)) := runF_eq _ _ _ _ _ _
theorem r_law_no_gap_at (fn : Nat → List D → R D) (z0 z1 z2 : D) : r_law_no_gap fn [z0, z1, z2] = outO false (evCs fn fuel b_law_no_gap [some z0, some z1, some z2, none, none]) := r_law_no_gap_eq fn _
def w_law_good_3_0 : Cmds := (.cons (.tgt [6, 7, 8, 9] (.ix (.var 0) (.var 2))) (.cons (.set 3 (.bin .add (.var 8) (.bin .mul (.var 9) (.bin .sub (.var 7) (.var 6))))) (.cons (.if_ (.cmp .lt (.var 9) (.cst (.int 0))) (.cons (.ret (.cst (.bl false))) .nil) .nil) (.cons (.set 4 (.cst .non)) (.cons (.if_ (.cmp .lt (.bin .add (.var 2) (.cst (.int 1))) (.bi .len (.cons (.var 0) .nil))) (.cons (.set 4 (.ix (.ix (.var 0) (.bin .add (.var 2) (.cst (.int 1)))) (.cst (.int 2)))) (.cons (.if_ (.cmp .lt (.var 4) (.var 3)) (.cons (.ret (.cst (.bl false))) .nil) .nil) .nil)) .nil) (.cons (.if_ (.or_ (.isN (.var 4)) (.cmp .gt (.var 4) (.var 3))) (.cons (.if_ (.cmp .ne (.call 45 (.cons (.var 1) (.cons (.var 7) .nil))) (.var 3)) (.cons (.ret (.cst (.bl false))) .nil) .nil) .nil) .nil) (.cons (.set 5 (.tup (.cons (.call 45 (.cons (.var 1) (.cons (.var 6) .nil))) (.cons (.call 45 (.cons (.var 1) (.cons (.bin .sub (.var 7) (.cst (.int 1))) .nil))) .nil)))) (.cons (.if_ (.and_ (.cmp .gt (.var 9) (.cst (.int 0))) (.cmp .ne (.var 5) (.tup (.cons (.var 8) (.cons (.bin .sub (.var 3) (.var 9)) .nil))))) (.cons (.ret (.cst (.bl false))) .nil) .nil) (.cons (.kill [2, 3, 4, 5, 6, 7, 8, 9]) .nil)))))))))
def b_law_good_3 : Cmds := (.cons (.for_ (.rng1 (.bi .len (.cons (.var 0) .nil))) (.one 2) w_law_good_3_0) (.cons (.ret (.cst (.bl true))) .nil))
abbrev r_law_good_3 (fn : Nat → List D → R D) : List D → R D := runF fn fuel 10 false b_law_good_3
theorem r_law_good_3_eq (fn zs) : r_law_good_3 fn zs = outO false (evCs fn fuel b_law_good_3 (initE 10 zs)) := runF_eq _ _ _ _ _ _
theorem r_law_good_3_at (fn : Nat → List D → R D) (z0 z1 : D) : r_law_good_3 fn [z0, z1] = outO false (evCs fn fuel b_law_good_3 [some z0, some z1, none, none, none, none, none, none, none, none]) := r_law_good_3_eq fn _
def x_law_0 : Ex := (.and_ (.cmp .le (.ix (.var 3) (.cst (.int 0))) (.var 6)) (.cmp .le (.var 6) (.ix (.var 3) (.cst (.int 1)))))
def x_law_1 : Ex := (.var 6)
def w_law_0 : Cmds := (.cons (.set 7 (.lst (.cons (.ix (.var 5) (.cst (.int 0))) (.cons (.ix (.var 5) (.cst (.int 1))) .nil)))) (.cons (.ext 4 (.compIf (.seq (.var 7)) (.one 6) [6] x_law_0 x_law_1)) (.cons (.kill [5, 7]) .nil)))
def w_law_1 : Cmds := (.cons (.if_ (.cmp .gt (.call 45 (.cons (.var 2) (.cons (.var 6) .nil))) (.call 45 (.cons (.var 1) (.cons (.var 6) .nil)))) (.cons (.ret (.cst (.bl false))) .nil) .nil) (.cons (.kill [6]) .nil))
def w_law_2 : Cmds := (.cons (.own 4 (.lst (.cons (.ix (.var 3) (.cst (.int 0))) (.cons (.ix (.var 3) (.cst (.int 1))) .nil)))) (.cons (.kill [5, 7]) (.cons (.for_ (.seq (.var 2)) (.one 5) w_law_0) (.shr 4 (.cons (.kill [6]) (.cons (.for_ (.seq (.var 4)) (.one 6) w_law_1) (.cons (.kill [3, 4]) .nil)))))))
def b_law : Cmds := (.cons (.set 1 (.call 35 (.cons (.call 59 (.cons (.var 0) (.cons (.cst (.int 1)) (.cons (.cst (.int 20)) .nil)))) (.cons (.call 34 (.cons (.call 24 (.cons (.var 0) (.cons (.cst (.int 0)) .nil))) .nil)) .nil)))) (.cons (.set 2 (.call 93 (.cons (.var 1) .nil))) (.cons (.if_ (.not_ (.call 37 (.cons (.var 2) .nil))) (.cons (.ret (.cst (.bl false))) .nil) .nil) (.cons (.if_ (.cmp .eq (.bi .len (.cons (.var 1) .nil)) (.cst (.int 0))) (.cons (.ret (.cmp .eq (.var 2) (.tup .nil))) .nil) .nil) (.cons (.if_ (.or_ (.not_ (.call 94 (.cons (.var 2) (.cons (.ix (.ix (.var 1) (.cst (.int 0))) (.cst (.int 0))) (.cons (.ix (.ix (.var 1) (.neg (.cst (.int 1)))) (.cst (.int 1))) .nil))))) (.not_ (.call 95 (.cons (.var 2) (.cons (.var 1) .nil))))) (.cons (.ret (.cst (.bl false))) .nil) .nil) (.cons (.for_ (.seq (.var 1)) (.one 3) w_law_2) (.cons (.ret (.cmp .eq (.call 93 (.cons (.var 2) .nil)) (.var 2))) .nil)))))))
abbrev r_law (fn : Nat → List D → R D) : List D → R D := runF fn fuel 8 false b_law
theorem r_law_eq (fn zs) : r_law fn zs = outO false (evCs fn fuel b_law (initE 8 zs)) := runF_eq _ _ _ _ _ _
theorem r_law_at (fn : Nat → List D → R D) (z0 : D) : r_law fn [z0] = outO false (evCs fn fuel b_law [some z0, none, none, none, none, none, none, none]) := r_law_eq fn _
/-! ### the least cost of at least so much, as a form -/
structure AtL (F G : List Q) (b B : Int) : Prop where
  can : Can G
  off : ∀ x z, costQ G x = some z → b ≤ x ∧ x ≤ B
  cov : ∀ x, b ≤ x → x ≤ B → ∃ z, costQ G x = some z ∧ IsMin (Suf F x) (some z)
  dm : ∀ x z, costQ F x = some z → b ≤ x ∧ x ≤ B
theorem AtL.dom {F G : List Q} {b B : Int} (h : AtL F G b B) {x z : Int} (e : costQ G x = some z) : IsMin (Suf F x) (some z) := by
  obtain ⟨a1, a2⟩ := h.off x z e
  obtain ⟨w, w1, w2⟩ := h.cov x a1 a2
  rw [e] at w1
  cases w1
  exact w2
theorem AtL.mono {F G : List Q} {b B : Int} (h : AtL F G b B) {x y u v : Int} (k : x ≤ y) (e1 : costQ G x = some u) (e2 : costQ G y = some v) : u ≤ v := by
  have d1 := h.dom e1
  have d2 := h.dom e2
  obtain ⟨w, hw, e⟩ := d2.at_ v rfl
  obtain ⟨z, ez, l⟩ := d1.le v ⟨w, by omega, e⟩
  cases ez
  exact l
theorem AtL.le {F G : List Q} {b B : Int} (h : AtL F G b B) {x u c : Int} (e1 : costQ G x = some u) (e2 : costQ F x = some c) : u ≤ c := by
  obtain ⟨z, ez, l⟩ := (h.dom e1).le c ⟨x, Int.le_refl _, e2⟩
  cases ez
  exact l
/-- where the next amount costs more, the form itself costs so much -/
theorem AtL.here {F G : List Q} {b B : Int} (h : AtL F G b B) {x u : Int} (e : costQ G x = some u) (k : ∀ v, costQ G (x + 1) = some v → u < v) : costQ F x = some u := by
  obtain ⟨d1, d2⟩ := h.off x u e
  obtain ⟨y, hy, ey⟩ := (h.dom e).at_ u rfl
  by_cases q : y = x
  · rw [← q]; exact ey
  · exfalso
    have yB := (h.dm y u ey).2
    obtain ⟨v, v1, v2⟩ := h.cov (x + 1) (by omega) (by omega)
    have := k v v1
    obtain ⟨z, ez, l⟩ := v2.le u ⟨y, by omega, ey⟩
    cases ez
    omega
theorem AtL.in_ {F G : List Q} {b B : Int} (h : AtL F G b B) : ∀ q ∈ G, b ≤ q.lo ∧ q.hi ≤ B := fun q hq => by
  have w := h.can.w q hq
  have c1 := h.can.asc.cost_mem hq (Int.le_refl _) w
  have c2 := h.can.asc.cost_mem hq w (Int.le_refl _)
  exact ⟨(h.off _ _ c1).1, (h.off _ _ c2).2⟩
def S_law_no_gap (f : List D → R D) : Prop := ∀ (P : List Q) (low high : Int), Asc P → (∀ q ∈ P, low ≤ q.lo ∧ q.hi ≤ high) → (∀ x, low ≤ x → x ≤ high → costQ P x ≠ none) → low ≤ high → f [fD P, .int low, .int high] = .ok (.bl true)
theorem law_no_gap_sp : S_law_no_gap (r_law_no_gap fn) := fun P low high ha hin hcov hlh => by
  rw [r_law_no_gap_at]
  have parts : ∀ (r done : List Q) (at_ : Int), P = done ++ r → (∀ d ∈ done, d.hi < at_) → low ≤ at_ → at_ ≤ high + 1 → (∀ q ∈ r, at_ ≤ q.lo) → forL (fun ρ x => thenO (bindT ρ (.one 4) x) ρ fun ρ' => evCs fn fuel w_law_no_gap_0 ρ') (r.map Q.d) [some (fD P), some (.int low), some (.int high), some (.int at_), none] = .nx [some (fD P), some (.int low), some (.int high), some (.int (high + 1)), none] := by
    intro r
    induction r with
    | nil =>
      intro done at_ e h1 h2 h3 _
      rw [List.append_nil] at e
      have : at_ = high + 1 := by
        by_cases k : at_ < high + 1
        · exfalso
          refine hcov at_ h2 (by omega) (costQ_none fun q hq k2 => ?_)
          rw [e] at hq
          have := h1 q hq
          omega
        · omega
      rw [this]; rfl
    | cons q r ih =>
      intro done at_ e h1 h2 h3 h4
      have hq : q ∈ P := by rw [e]; simp
      obtain ⟨i1, i2⟩ := hin q hq
      have w0 := ha.w q hq
      have asc := ha
      rw [e] at asc
      have nx : ∀ p ∈ r, q.hi < p.lo := (asc_cons.mp (asc_app.mp asc).2.1).2.1
      have ea : q.lo = at_ := by
        have := h4 q (.head _)
        by_cases k : at_ < q.lo
        · exfalso
          refine hcov at_ h2 (by omega) (costQ_none fun p hp k2 => ?_)
          rw [e] at hp
          rcases List.mem_append.mp hp with m | m
          · have := h1 p m; omega
          · rcases List.mem_cons.mp m with m | m
            · rw [m] at k2; omega
            · have := nx p m; omega
        · omega
      rw [List.map_cons, forL_nx (ρ' := [some (fD P), some (.int low), some (.int high), some (.int (q.hi + 1)), none])]
      · refine ih (done ++ [q]) (q.hi + 1) (by rw [e]; simp) (fun d hd => ?_) (by omega) (by omega) (fun p hp => by have := nx p hp; omega)
        rcases List.mem_append.mp hd with m | m
        · have := h1 d m; omega
        · rw [List.mem_singleton.mp m]; omega
      · have j0 : ixD q.d (.int 0) = .ok (.int q.lo) := rfl
        have j1 : ixD q.d (.int 1) = .ok (.int q.hi) := rfl
        rw [bind_one, thenO_ok]
        generalize q.d = QD at *
        generalize fD P = PD at *
        simp [w_law_no_gap_0, j0, j1, ea]
  have k := parts P [] low rfl (fun _ h => nomatch h) (Int.le_refl _) (by omega) (fun q hq => (hin q hq).1)
  refine out_of (go_set (z := .int low) rfl (go_for (xs := P.map Q.d) ?_ k (go_ret ?_)))
  · unfold fD; simp [items]
  · generalize fD P = PD at *
    simp
def S_law_good_3 (f : List D → R D) : Prop := ∀ (F G : List Q) (b B : Int) (N : Nat), AtL F G b B → Bd N G → Bd N F → N ≤ Hg → G.length ≤ 1000000 → f [fD G, fD F] = .ok (.bl true)
theorem law_good_3_sp (h_law_cost_2 : S_law_cost_2 (fn 45)) : S_law_good_3 (r_law_good_3 fn) := fun F G b B N h hG hF hN hl => by
  have g := Hg_pos
  rw [r_law_good_3_at]
  have asc := h.can.asc
  have lc := fun x => h_law_cost_2 (fD F) F x N rfl hF hN
  have lenG : biD .len [fD G] = .ok (.int (G.length : Nat)) := by simp
  have turn : ∀ k : Nat, k < G.length → evCs fn fuel w_law_good_3_0 [some (fD G), some (fD F), some (.int k), none, none, none, none, none, none, none] = .nx [some (fD G), some (fD F), none, none, none, none, none, none, none, none] := fun k hk => by
    obtain ⟨q, hq⟩ : ∃ q, q = G[k] := ⟨_, rfl⟩
    have qm : q ∈ G := by rw [hq]; exact List.getElem_mem hk
    have w := h.can.w q qm
    have bq := hG q qm
    have b1 := bq.lo; have b2 := bq.hi; have b4 := bq.st
    have mq : mulOk q.st (q.hi - q.lo) = true := mulH (by omega) (by clear bq; omega)
    have c1 := asc.cost_mem qm (Int.le_refl q.lo) w
    rw [at_lo] at c1
    have c2 := asc.cost_mem qm w (Int.le_refl q.hi)
    have last : q.pr + q.st * (q.hi - q.lo) = q.at q.hi := rfl
    have s0 : 0 ≤ q.st := by
      by_cases e : q.lo = q.hi
      · rw [h.can.z q qm e]; exact Int.le_refl _
      · have c3 := asc.cost_mem qm (show q.lo ≤ q.lo + 1 by omega) (show q.lo + 1 ≤ q.hi by omega)
        have := h.mono (show q.lo ≤ q.lo + 1 by omega) c1 c3
        have e2 : q.at (q.lo + 1) = q.pr + q.st := by show q.pr + q.st * (q.lo + 1 - q.lo) = _; rw [show q.lo + 1 - q.lo = 1 by omega, Int.mul_one]
        omega
    have iq : ixD (fD G) (.int k) = .ok q.d := ix_tup (by omega) (by simp [hk, hq])
    -- what stands after it
    have nextC : ∀ v, costQ G (q.hi + 1) = some v → ∃ n, G[k + 1]? = some n ∧ v = n.pr := fun v hv => by
      obtain ⟨p, hp, p1, p2, e⟩ := costQ_some hv
      have sp : G = G.take (k + 1) ++ G.drop (k + 1) := (List.take_append_drop ..).symm
      have tk : G.take (k + 1) = G.take k ++ [q] := by rw [List.take_add_one, List.getElem?_eq_getElem hk, hq]; rfl
      have as := asc
      rw [sp] at as hp
      obtain ⟨a1, a2, a3⟩ := asc_app.mp as
      rcases List.mem_append.mp hp with m | m
      · exfalso
        rw [tk] at m a1
        rcases List.mem_append.mp m with m | m
        · have := (asc_snoc.mp a1).2.2 p m; omega
        · rw [List.mem_singleton.mp m] at p2; omega
      · cases hd : G.drop (k + 1) with
        | nil => rw [hd] at m; cases m
        | cons n t =>
          have gn : G[k + 1]? = some n := by
            have := List.getElem?_drop (xs := G) (i := k + 1) (j := 0)
            rw [hd] at this
            simpa using this.symm
          rw [hd] at m a2 a3
          have hn := a3 q (by rw [tk]; simp) n (.head _)
          rcases List.mem_cons.mp m with m | m
          · refine ⟨n, gn, ?_⟩
            rw [m] at p1 e
            rw [show q.hi + 1 = n.lo by omega, at_lo] at e
            omega
          · exfalso
            obtain ⟨w1, w2, _⟩ := asc_cons.mp a2
            have := w2 p m
            omega
    have st1 : 0 < q.st → costQ F q.lo = some q.pr ∧ costQ F (q.hi - 1) = some (q.at q.hi - q.st) := fun sp => by
      have lt : q.lo < q.hi := by
        by_cases e : q.lo = q.hi
        · have := h.can.z q qm e; omega
        · omega
      have nx : ∀ x, q.lo ≤ x → x < q.hi → costQ F x = some (q.at x) := fun x x1 x2 => h.here (asc.cost_mem qm x1 (by omega)) fun v hv => by
        rw [asc.cost_mem qm (show q.lo ≤ x + 1 by omega) (by omega)] at hv
        cases hv
        have : q.at (x + 1) = q.at x + q.st := by
          show q.pr + q.st * (x + 1 - q.lo) = q.pr + q.st * (x - q.lo) + q.st
          rw [show x + 1 - q.lo = (x - q.lo) + 1 by omega, Int.mul_add, Int.mul_one]; omega
        omega
      have e1 := nx q.lo (Int.le_refl _) lt
      rw [at_lo] at e1
      have e2 := nx (q.hi - 1) (by omega) (by omega)
      have : q.at (q.hi - 1) = q.at q.hi - q.st := by
        show q.pr + q.st * (q.hi - 1 - q.lo) = q.pr + q.st * (q.hi - q.lo) - q.st
        rw [show q.hi - q.lo = (q.hi - 1 - q.lo) + 1 by omega, Int.mul_add, Int.mul_one]; omega
      rw [this] at e2
      exact ⟨e1, e2⟩
    have l1 := lc q.lo
    have l2 := lc (q.hi - 1)
    have l3 := lc q.hi
    have ns : ¬ q.st < 0 := by omega
    -- the two ends, where the step is above nothing
    have ends : ev fn (.and_ (.cmp .gt (.var 9) (.cst (.int 0))) (.cmp .ne (.var 5) (.tup (.cons (.var 8) (.cons (.bin .sub (.var 3) (.var 9)) .nil))))) = fun ρ => ev fn (.and_ (.cmp .gt (.var 9) (.cst (.int 0))) (.cmp .ne (.var 5) (.tup (.cons (.var 8) (.cons (.bin .sub (.var 3) (.var 9)) .nil))))) ρ := rfl
    have endv : ∀ z2 z4 : Option D, ev fn (.and_ (.cmp .gt (.var 9) (.cst (.int 0))) (.cmp .ne (.var 5) (.tup (.cons (.var 8) (.cons (.bin .sub (.var 3) (.var 9)) .nil))))) [some (fD G), some (fD F), z2, some (.int (q.at q.hi)), z4, some (.tup [costD (costQ F q.lo), costD (costQ F (q.hi - 1))]), some (.int q.lo), some (.int q.hi), some (.int q.pr), some (.int q.st)] = .ok (.bl false) := fun z2 z4 => by
      generalize q.at q.hi = z at *
      by_cases sp : 0 < q.st
      · obtain ⟨e1, e2⟩ := st1 sp
        rw [e1, e2]
        have ne : cmpD .ne (.tup [.int q.pr, .int (z - q.st)]) (.tup [.int q.pr, .int (z - q.st)]) = .ok (.bl false) := by
          rw [cmp_ne, eqD_refl rfl (by simp [D.py, D.pyL, PyData.depth, PyData.depthAll])]; rfl
        generalize fD G = GD at *
        generalize fD F = FD at *
        simp [sp, costD, ne]
      · generalize fD G = GD at *
        generalize fD F = FD at *
        simp [sp]
    have tail : ∀ z4 : Option D, evCs fn fuel (.cons (.set 5 (.tup (.cons (.call 45 (.cons (.var 1) (.cons (.var 6) .nil))) (.cons (.call 45 (.cons (.var 1) (.cons (.bin .sub (.var 7) (.cst (.int 1))) .nil))) .nil)))) (.cons (.if_ (.and_ (.cmp .gt (.var 9) (.cst (.int 0))) (.cmp .ne (.var 5) (.tup (.cons (.var 8) (.cons (.bin .sub (.var 3) (.var 9)) .nil))))) (.cons (.ret (.cst (.bl false))) .nil) .nil) (.cons (.kill [2, 3, 4, 5, 6, 7, 8, 9]) .nil))) [some (fD G), some (fD F), some (.int k), some (.int (q.at q.hi)), z4, none, some (.int q.lo), some (.int q.hi), some (.int q.pr), some (.int q.st)] = .nx [some (fD G), some (fD F), none, none, none, none, none, none, none, none] := fun z4 => by
      refine go_set (z := .tup [costD (costQ F q.lo), costD (costQ F (q.hi - 1))]) ?_ (go_f0 (endv _ _) rfl)
      generalize costD (costQ F q.lo) = o1 at *
      generalize costD (costQ F (q.hi - 1)) = o2 at *
      generalize fD G = GD at *
      generalize fD F = FD at *
      simp [l1, l2]
    have hereL : (∀ v, costQ G (q.hi + 1) = some v → q.at q.hi < v) → fn 45 [fD F, .int q.hi] = .ok (.int (q.at q.hi)) := fun hv => by
      rw [l3, h.here c2 hv]; rfl
    unfold w_law_good_3_0
    refine go_tgt (z := q.d) (ρ' := [some (fD G), some (fD F), some (.int k), none, none, none, some (.int q.lo), some (.int q.hi), some (.int q.pr), some (.int q.st)]) ?_ ?_ (go_set (z := .int (q.at q.hi)) ?_ (go_f0 ?_ (go_set (z := .non) rfl ?_)))
    · generalize fD G = GD at *
      generalize fD F = FD at *
      generalize q.d = QD at *
      simp [iq]
    · unfold Q.d; rw [bind_many _ _ _ rfl]; rfl
    · generalize fD G = GD at *
      generalize fD F = FD at *
      simp [mq, last]
    · generalize fD G = GD at *
      generalize fD F = FD at *
      simp [ns]
    · show evCs fn fuel _ [some (fD G), some (fD F), some (.int k), some (.int (q.at q.hi)), some .non, none, some (.int q.lo), some (.int q.hi), some (.int q.pr), some (.int q.st)] = _
      by_cases kn : k + 1 < G.length
      · obtain ⟨n, hn⟩ : ∃ n, n = G[k + 1] := ⟨_, rfl⟩
        have nm : n ∈ G := by rw [hn]; exact List.getElem_mem kn
        have i2 : ixD (fD G) (.int ((k : Int) + 1)) = .ok n.d := ix_tup (by omega) (by rw [show ((k : Int) + 1).toNat = k + 1 by omega]; simp [kn, hn])
        have j2 : ixD n.d (.int 2) = .ok (.int n.pr) := rfl
        have cn := asc.cost_mem nm (Int.le_refl n.lo) (h.can.w n nm)
        rw [at_lo] at cn
        have gn : G[k + 1]? = some n := by rw [hn]; exact List.getElem?_eq_getElem kn
        have lt : q.hi < n.lo := by
          have := List.pairwise_iff_getElem.mp h.can.p k (k + 1) hk kn (by omega)
          rw [← hq, ← hn] at this
          exact this.1
        have mono := h.mono (show q.hi ≤ n.lo by omega) c2 cn
        have nlt : ¬ n.pr < q.at q.hi := by omega
        have kI : ((k : Int) + 1) < ((G.length : Nat) : Int) := by omega
        refine go_cmd (ρ' := [some (fD G), some (fD F), some (.int k), some (.int (q.at q.hi)), some (.int n.pr), none, some (.int q.lo), some (.int q.hi), some (.int q.pr), some (.int q.st)]) ?_ ?_
        · generalize q.at q.hi = z at *
          generalize hnd : n.d = ND at *
          generalize fD F = FD at *
          generalize fD G = GD at *
          generalize ((G.length : Nat) : Int) = len at *
          simp [lenG, kI, i2, j2, nlt]
        · by_cases gt : q.at q.hi < n.pr
          · have hl3 := hereL fun v hv => by
              obtain ⟨n', g1, g2⟩ := nextC v hv
              rw [gn] at g1; cases g1
              omega
            refine go_cmd (ρ' := [some (fD G), some (fD F), some (.int k), some (.int (q.at q.hi)), some (.int n.pr), none, some (.int q.lo), some (.int q.hi), some (.int q.pr), some (.int q.st)]) ?_ (tail _)
            generalize q.at q.hi = z at *
            generalize fD F = FD at *
            generalize fD G = GD at *
            simp [gt, hl3]
          · refine go_cmd (ρ' := [some (fD G), some (fD F), some (.int k), some (.int (q.at q.hi)), some (.int n.pr), none, some (.int q.lo), some (.int q.hi), some (.int q.pr), some (.int q.st)]) ?_ (tail _)
            generalize q.at q.hi = z at *
            generalize fD F = FD at *
            generalize fD G = GD at *
            simp [gt]
      · have hl3 := hereL fun v hv => by
          obtain ⟨n', g1, g2⟩ := nextC v hv
          rw [List.getElem?_eq_none (by omega)] at g1; cases g1
        have kI : ¬ ((k : Int) + 1) < ((G.length : Nat) : Int) := by omega
        refine go_f0 ?_ (go_cmd (ρ' := [some (fD G), some (fD F), some (.int k), some (.int (q.at q.hi)), some .non, none, some (.int q.lo), some (.int q.hi), some (.int q.pr), some (.int q.st)]) ?_ (tail _))
        · generalize q.at q.hi = z at *
          generalize fD F = FD at *
          generalize fD G = GD at *
          generalize ((G.length : Nat) : Int) = len at *
          simp [lenG, kI]
        · generalize q.at q.hi = z at *
          generalize fD F = FD at *
          generalize fD G = GD at *
          simp [hl3]
  obtain ⟨ρ', o1, o2⟩ := forL_inv (f := fun ρ y => thenO (bindT ρ (.one 2) y) ρ fun ρ' => evCs fn fuel w_law_good_3_0 ρ') (fun ρ => ρ = [some (fD G), some (fD F), none, none, none, none, none, none, none, none]) (xs := upto 0 G.length) (fun ρ y hP2 hy => by
    subst hP2
    obtain ⟨i, hi, rfl⟩ := mem_upto hy
    refine ⟨_, .inl ?_, rfl⟩
    rw [Int.zero_add, bind_one, thenO_ok]
    exact turn i hi) rfl
  subst o2
  refine out_of (go_for (xs := upto 0 G.length) ?_ o1 (go_ret rfl))
  generalize fD F = FD at *
  generalize fD G = GD at *
  simp [lenG]
theorem filt26 {it : Itr} {tg : Tg} {own : List Nat} {c e : Ex} {ρ : Env} {α : Type} {k : α → D} {p : α → Bool} {g : α → D} {xs : List α} (h : evi fn it ρ = .ok (xs.map k)) (hl : xs.length ≤ 16777216)
    (hx : ∀ x ∈ xs, (bindT (wipeE ρ own) tg (k x)).bind (fun ρ' => (ev fn c ρ').bind fun t => (asBool t).bind fun b => if b then (ev fn e ρ').bind fun d => .ok (some d) else .ok none) = .ok (if p x then some (g x) else none)) : ev fn (.compIf it tg own c e) ρ = .ok (.lst ((xs.filter p).map g)) :=
  ev_compIf_ok h (by rw [List.length_map]; exact hl) (compL_filter k p g hx)
theorem eqF (a : List Q) : cmpD .eq (fD a) (fD a) = .ok (.bl true) := by rw [cmp_eq, eqD_forms]; simp
theorem at_of {F R : List Q} {b B : Int} (ha : Asc F) (hb : ∃ q t, F = q :: t ∧ b = q.lo) (hB : ∃ p, F.getLast? = some p ∧ B = p.hi) (so : SufOf F R b B) : AtL F (laidQ R) b B := by
  obtain ⟨q, t, e1, e2⟩ := hb
  obtain ⟨p, e3, e4⟩ := hB
  refine ⟨laidQ_can so.asc, fun x z e => ?_, fun x x1 x2 => ?_, fun x z e => ?_⟩
  · rw [laidQ_cost so.asc] at e
    obtain ⟨d, hd, d1, d2, _⟩ := costQ_some e
    have := so.in_ d hd
    omega
  · obtain ⟨z, z1, z2⟩ := so.cov x x1 x2
    exact ⟨z, by rw [laidQ_cost so.asc]; exact z1, z2⟩
  · obtain ⟨d, hd, d1, d2, _⟩ := costQ_some e
    constructor
    · rw [e1] at hd ha
      obtain ⟨w, k, _⟩ := asc_cons.mp ha
      rcases List.mem_cons.mp hd with m | m
      · rw [m] at d1; omega
      · have := k d m; omega
    · rcases List.eq_nil_or_concat F with f | ⟨s, y, f⟩
      · rw [f] at e3; cases e3
      · rw [List.concat_eq_append] at f
        rw [f, List.getLast?_concat] at e3
        cases e3
        rw [f] at hd ha
        rcases List.mem_append.mp hd with m | m
        · have := (asc_snoc.mp ha).2.2 d m; have := (asc_snoc.mp ha).2.1; omega
        · rw [List.mem_singleton.mp m] at d2; omega
/-- once more: the same -/
theorem at_twice {F G : List Q} {b B : Int} (h : AtL F G b B) (hbB : b ≤ B) {N : Nat} (hb : Bd N G) : laidQ (alR G) = G := by
  obtain ⟨z, z1, _⟩ := h.cov b (Int.le_refl _) hbB
  have ne : G ≠ [] := fun q => by rw [q] at z1; cases z1
  obtain ⟨R, m, b', B', ea, ⟨q, t, e1, e2⟩, ⟨p, e3, e4⟩, _, so, _, _, _, _⟩ := al_ok (N := N) ne h.can.asc hb
  have hR : alR G = R := by unfold alR; rw [ea]
  have at2 := at_of h.can.asc ⟨q, t, e1, e2⟩ ⟨p, e3, e4⟩ so
  have qm : q ∈ G := by rw [e1]; exact .head _
  have pm : p ∈ G := List.mem_of_getLast? e3
  have i1 := h.in_ q qm
  have i2 := h.in_ p pm
  have k1 : b' = b := by
    have := (at2.dm b z z1).1
    omega
  have k2 : B' = B := by
    obtain ⟨v, v1, _⟩ := h.cov B hbB (Int.le_refl _)
    have := (at2.dm B v v1).2
    omega
  subst k1 k2
  rw [hR]
  refine can_uniq at2.can h.can fun x => ?_
  by_cases k : b' ≤ x ∧ x ≤ B'
  · obtain ⟨u, u1, u2⟩ := at2.cov x k.1 k.2
    obtain ⟨v, v1, _⟩ := h.cov x k.1 k.2
    have mn : IsMin (Suf G x) (some v) := ⟨fun c ⟨y, y1, e⟩ => ⟨v, rfl, h.mono y1 v1 e⟩, fun z hz => by cases hz; exact ⟨x, Int.le_refl _, v1⟩⟩
    rw [u1, v1, u2.uniq mn]
  · cases e : costQ (laidQ R) x with
    | some u => exact absurd (at2.off x u e) k
    | none =>
      cases e' : costQ G x with
      | some u => exact absurd (h.off x u e') k
      | none => rfl
theorem law_sp (h_at_least : S_at_least (fn 93)) (h_law_cell : S_law_cell (fn 24)) (h_law_start : S_law_start (fn 34)) (h_law_form : S_law_form (fn 35)) (h_law_canon : S_law_canon (fn 37)) (h_law_numbers_3 : S_law_numbers_3 (fn 59)) (h_law_cost_2 : S_law_cost_2 (fn 45)) (h_law_no_gap : S_law_no_gap (fn 94)) (h_law_good_3 : S_law_good_3 (fn 95)) : S_law (r_law fn) := fun ns hl hb => by
  have hH := hg240
  have sm := sm_all hb
  rw [r_law_at]
  have c0 := cell_0 h_law_cell ns
  obtain ⟨st, e2, bs⟩ := h_law_start (cellAt ns 0)
  obtain ⟨cs, e1, cl, cb⟩ := h_law_numbers_3 ns 1 20 sm (by omega) (by decide)
  have e1 : fn 59 [.lst (ns.map .int), .int 1, .int 20] = .ok (.lst (cs.map .int)) := e1
  obtain ⟨F, e3, cF, lF, bF⟩ := h_law_form cs st (by omega) (fun c hc => Sm.of_lt (by have := cb c hc; omega)) (by omega)
  obtain ⟨N, hN⟩ : ∃ N : Nat, N = 2 ^ 240 := ⟨_, rfl⟩
  rw [← hN] at bF hH
  have aF := cF.asc
  have a1 := h_at_least F N aF bF (by omega) (by omega)
  have first : ∀ G : List Q, fn 93 [fD F] = .ok (fD G) → ∀ r, evCs fn fuel (.cons (.if_ (.not_ (.call 37 (.cons (.var 2) .nil))) (.cons (.ret (.cst (.bl false))) .nil) .nil) (.cons (.if_ (.cmp .eq (.bi .len (.cons (.var 1) .nil)) (.cst (.int 0))) (.cons (.ret (.cmp .eq (.var 2) (.tup .nil))) .nil) .nil) (.cons (.if_ (.or_ (.not_ (.call 94 (.cons (.var 2) (.cons (.ix (.ix (.var 1) (.cst (.int 0))) (.cst (.int 0))) (.cons (.ix (.ix (.var 1) (.neg (.cst (.int 1)))) (.cst (.int 1))) .nil))))) (.not_ (.call 95 (.cons (.var 2) (.cons (.var 1) .nil))))) (.cons (.ret (.cst (.bl false))) .nil) .nil) (.cons (.for_ (.seq (.var 1)) (.one 3) w_law_2) (.cons (.ret (.cmp .eq (.call 93 (.cons (.var 2) .nil)) (.var 2))) .nil))))) [some (.lst (ns.map .int)), some (fD F), some (fD G), none, none, none, none, none] = r → evCs fn fuel b_law [some (.lst (ns.map .int)), none, none, none, none, none, none, none] = r := fun G hG r hr => by
    refine go_set (z := fD F) ?_ (go_set (z := fD G) ?_ hr)
    · generalize fD F = FD at *
      simp [c0, e2, e1, e3]
    · generalize fD F = FD at *
      generalize fD G = GD at *
      simp [hG]
  by_cases F0 : F = []
  · have G0 : laidQ (alR F) = [] := by rw [F0]; rfl
    rw [G0] at a1
    refine out_of (first [] a1 _ ?_)
    have can := h_law_canon [] 0 Can.nil Bd.nil (by omega) (by simp)
    have len : biD .len [fD F] = .ok (.int 0) := by rw [F0]; rfl
    have eq : cmpD .eq (fD []) (.tup []) = .ok (.bl true) := eqF []
    generalize fD F = FD at *
    generalize hE : fD [] = ED at *
    refine go_f0 (by simp [can]) (go_tr (by simp [len]) (by simp [eq]))
  · obtain ⟨R, m, b, B, ea, hq, hp, bB, so, _, _, rb, rl⟩ := al_ok (N := N) F0 aF bF
    have hR : alR F = R := by unfold alR; rw [ea]
    rw [hR] at a1
    have at_ := at_of aF hq hp so
    have bG := laidQ_bd so.asc rb
    have lG := laidQ_le R
    obtain ⟨G, hG⟩ : ∃ G, G = laidQ R := ⟨_, rfl⟩
    rw [← hG] at a1 at_ bG lG
    have lR : R.length ≤ 80 := by omega
    have can := h_law_canon G (2 * N) at_.can bG (by omega) (by omega)
    obtain ⟨q0, t0, f1, f2⟩ := hq
    obtain ⟨p0, f3, f4⟩ := hp
    have lFp : 0 < F.length := List.length_pos_iff.mpr F0
    have len : biD .len [fD F] = .ok (.int (F.length : Nat)) := by simp
    have i0 : ixD (fD F) (.int 0) = .ok q0.d := ix_tup (by omega) (by rw [f1]; rfl)
    have iN : ixD (fD F) (.int (-1)) = .ok p0.d := by
      rcases List.eq_nil_or_concat F with e | ⟨s, w, e⟩
      · exact absurd e F0
      · rw [List.concat_eq_append] at e
        have : w = p0 := by rw [e, List.getLast?_concat] at f3; exact Option.some.inj f3
        subst this
        have el : F.length = s.length + 1 := by rw [e]; simp
        refine ix_tupN (by decide) (by rw [List.length_map]; omega) ?_
        rw [show ((-1 : Int) + ((F.map Q.d).length : Nat)).toNat = s.length by rw [List.length_map, el]; omega, e]
        simp
    have j0 : ixD q0.d (.int 0) = .ok (.int q0.lo) := rfl
    have j1 : ixD p0.d (.int 1) = .ok (.int p0.hi) := rfl
    have ng := h_law_no_gap G b B at_.can.asc at_.in_ (fun x x1 x2 => by obtain ⟨z, z1, _⟩ := at_.cov x x1 x2; rw [z1]; exact fun q => nomatch q) bB
    rw [f2, f4] at ng
    have gd := h_law_good_3 F G b B (2 * N) at_ bG (bF.mono (by omega)) (by omega) (by omega)
    have a2 := h_at_least G (2 * N) at_.can.asc bG (by omega) (by omega)
    rw [at_twice at_ bB bG] at a2
    have eqG := eqF G
    have lcF := fun x => h_law_cost_2 (fD F) F x N rfl bF (by omega)
    have lcG := fun x => h_law_cost_2 (fD G) G x (2 * N) rfl bG (by omega)
    -- one part
    have cut : ∀ (q : Q) (o : Q) (xs : List Int), (∀ x ∈ xs, q.lo ≤ x ∧ x ≤ q.hi) → xs.length ≤ 1000 → ∃ xs' : List Int, evCs fn fuel w_law_0 [some (.lst (ns.map .int)), some (fD F), some (fD G), some q.d, some (.lst (xs.map .int)), some o.d, none, none] = .nx [some (.lst (ns.map .int)), some (fD F), some (fD G), some q.d, some (.lst (xs'.map .int)), none, none, none] ∧ (∀ x ∈ xs', q.lo ≤ x ∧ x ≤ q.hi) ∧ xs'.length ≤ xs.length + 2 := fun q o xs hx hn => by
      obtain ⟨es, hes⟩ : ∃ es : List Int, es = [o.lo, o.hi].filter fun x => decide (q.lo ≤ x ∧ x ≤ q.hi) := ⟨_, rfl⟩
      have el : es.length ≤ 2 := by rw [hes]; exact List.length_filter_le ..
      have c : ev fn (.compIf (.seq (.var 7)) (.one 6) [6] x_law_0 x_law_1) [some (.lst (ns.map .int)), some (fD F), some (fD G), some q.d, some (.lst (xs.map .int)), some o.d, none, some (.lst ([o.lo, o.hi].map .int))] = .ok (.lst (es.map .int)) := by
        rw [hes]
        refine filt26 (k := D.int) (g := D.int) (xs := [o.lo, o.hi]) (by rw [evi_seq, ev_var]; rfl) (by simp) fun x _ => ?_
        have k0 : ixD q.d (.int 0) = .ok (.int q.lo) := rfl
        have k1 : ixD q.d (.int 1) = .ok (.int q.hi) := rfl
        generalize D.lst ([o.lo, o.hi].map .int) = OD at *
        generalize D.lst (xs.map .int) = XD at *
        generalize fD F = FD at *
        generalize fD G = GD at *
        generalize q.d = QD at *
        generalize o.d = PD at *
        by_cases h1 : q.lo ≤ x
        · by_cases h2 : x ≤ q.hi
          · simp [x_law_0, x_law_1, k0, k1, h1, h2]
          · simp [x_law_0, x_law_1, k0, k1, h1, h2]
        · simp [x_law_0, x_law_1, k0, k1, h1]
      refine ⟨xs ++ es, ?_, fun x hx2 => ?_, by rw [List.length_append]; omega⟩
      · have k0 : ixD o.d (.int 0) = .ok (.int o.lo) := rfl
        have k1 : ixD o.d (.int 1) = .ok (.int o.hi) := rfl
        have ll : (xs.map D.int).length + (es.map D.int).length ≤ 16777216 := by rw [List.length_map, List.length_map]; omega
        unfold w_law_0
        rw [List.map_append]
        refine go_set (z := .lst ([o.lo, o.hi].map .int)) ?_ ?_
        · generalize fD F = FD at *
          generalize fD G = GD at *
          generalize q.d = QD at *
          generalize o.d = PD at *
          simp [k0, k1]
        · generalize D.lst ([o.lo, o.hi].map .int) = OD at *
          generalize fD F = FD at *
          generalize fD G = GD at *
          generalize q.d = QD at *
          generalize o.d = PD at *
          generalize xs.map D.int = XD at *
          generalize es.map D.int = EDs at *
          generalize hX : Ex.compIf (.seq (.var 7)) (.one 6) [6] x_law_0 x_law_1 = XX at *
          simp [hX, c, ll]
      · rcases List.mem_append.mp hx2 with k | k
        · exact hx x k
        · rw [hes] at k
          exact of_decide_eq_true (List.mem_filter.mp k).2
    have cuts : ∀ (q : Q) (r : List Q) (xs : List Int), (∀ x ∈ xs, q.lo ≤ x ∧ x ≤ q.hi) → xs.length + 2 * r.length ≤ 1000 → ∃ xs' : List Int, forL (fun ρ x => thenO (bindT ρ (.one 5) x) ρ fun ρ' => evCs fn fuel w_law_0 ρ') (r.map Q.d) [some (.lst (ns.map .int)), some (fD F), some (fD G), some q.d, some (.lst (xs.map .int)), none, none, none] = .nx [some (.lst (ns.map .int)), some (fD F), some (fD G), some q.d, some (.lst (xs'.map .int)), none, none, none] ∧ (∀ x ∈ xs', q.lo ≤ x ∧ x ≤ q.hi) := fun q r => by
      induction r with
      | nil => intro xs hx _; exact ⟨xs, rfl, hx⟩
      | cons o r ih =>
        intro xs hx hn
        rw [List.length_cons] at hn
        obtain ⟨x1, s1, s2, s3⟩ := cut q o xs hx (by omega)
        obtain ⟨x2, s4, s5⟩ := ih x1 s2 (by omega)
        refine ⟨x2, ?_, s5⟩
        rw [List.map_cons, forL_nx (ρ' := [some (.lst (ns.map .int)), some (fD F), some (fD G), some q.d, some (.lst (x1.map .int)), none, none, none])]
        · exact s4
        · rw [bind_one, thenO_ok]; exact s1
    have part : ∀ q ∈ F, evCs fn fuel w_law_2 [some (.lst (ns.map .int)), some (fD F), some (fD G), some q.d, none, none, none, none] = .nx [some (.lst (ns.map .int)), some (fD F), some (fD G), none, none, none, none, none] := fun q hqm => by
      have w := aF.w q hqm
      obtain ⟨xs, s1, s2⟩ := cuts q G [q.lo, q.hi] (fun x hx => by
        simp only [List.mem_cons, List.not_mem_nil, or_false] at hx
        rcases hx with h | h <;> omega) (by simp; omega)
      have k0 : ixD q.d (.int 0) = .ok (.int q.lo) := rfl
      have k1 : ixD q.d (.int 1) = .ok (.int q.hi) := rfl
      have one : ∀ x ∈ xs, evCs fn fuel w_law_1 [some (.lst (ns.map .int)), some (fD F), some (fD G), some q.d, some (.lst (xs.map .int)), none, some (.int x), none] = .nx [some (.lst (ns.map .int)), some (fD F), some (fD G), some q.d, some (.lst (xs.map .int)), none, none, none] := fun x hx => by
        obtain ⟨x1, x2⟩ := s2 x hx
        have cf := aF.cost_mem hqm x1 x2
        obtain ⟨d1, d2⟩ := at_.dm x _ cf
        obtain ⟨u, u1, _⟩ := at_.cov x d1 d2
        have le := at_.le u1 cf
        have l1 := lcF x
        have l2 := lcG x
        rw [cf] at l1
        rw [u1] at l2
        generalize q.at x = c at *
        have l1 : fn 45 [fD F, .int x] = .ok (.int c) := l1
        have l2 : fn 45 [fD G, .int x] = .ok (.int u) := l2
        have ngt : ¬ c < u := by omega
        generalize D.lst (xs.map .int) = XD at *
        generalize fD F = FD at *
        generalize fD G = GD at *
        generalize q.d = QD at *
        simp [w_law_1, l1, l2, ngt]
      obtain ⟨ρ', o1, o2⟩ := forL_inv (f := fun ρ y => thenO (bindT ρ (.one 6) y) ρ fun ρ' => evCs fn fuel w_law_1 ρ') (fun ρ => ρ = [some (.lst (ns.map .int)), some (fD F), some (fD G), some q.d, some (.lst (xs.map .int)), none, none, none]) (xs := xs.map .int) (fun ρ y hP2 hy => by
        subst hP2
        obtain ⟨x, hx, rfl⟩ := List.mem_map.mp hy
        exact ⟨_, .inl (one x hx), rfl⟩) rfl
      subst o2
      unfold w_law_2
      refine go_own (z := .lst ([q.lo, q.hi].map .int)) ?_ (go_cmd (ρ' := [some (.lst (ns.map .int)), some (fD F), some (fD G), some q.d, some (.lst ([q.lo, q.hi].map .int)), none, none, none]) rfl (go_for (xs := G.map Q.d) ?_ s1 ?_))
      · generalize fD F = FD at *
        generalize fD G = GD at *
        generalize q.d = QD at *
        simp [k0, k1]
      · generalize q.d = QD at *
        generalize fD F = FD at *
        unfold fD
        simp [items]
      · rw [evCs_shr]
        have : evCs fn fuel (.cons (.kill [6]) (.cons (.for_ (.seq (.var 4)) (.one 6) w_law_1) (.cons (.kill [3, 4]) .nil))) [some (.lst (ns.map .int)), some (fD F), some (fD G), some q.d, some (.lst (xs.map .int)), none, none, none] = .nx [some (.lst (ns.map .int)), some (fD F), some (fD G), none, none, none, none, none] := by
          refine go_cmd (ρ' := [some (.lst (ns.map .int)), some (fD F), some (fD G), some q.d, some (.lst (xs.map .int)), none, none, none]) rfl (go_for (xs := xs.map .int) ?_ o1 rfl)
          generalize fD F = FD at *
          generalize fD G = GD at *
          generalize q.d = QD at *
          simp [items]
        rw [this]; rfl
    obtain ⟨ρ', o1, o2⟩ := forL_inv (f := fun ρ y => thenO (bindT ρ (.one 3) y) ρ fun ρ' => evCs fn fuel w_law_2 ρ') (fun ρ => ρ = [some (.lst (ns.map .int)), some (fD F), some (fD G), none, none, none, none, none]) (xs := F.map Q.d) (fun ρ y hP2 hy => by
      subst hP2
      obtain ⟨q, hq, rfl⟩ := List.mem_map.mp hy
      exact ⟨_, .inl (part q hq), rfl⟩) rfl
    subst o2
    refine out_of (first G a1 _ (go_f0 ?_ (go_f0 ?_ (go_f0 ?_ (go_for (xs := F.map Q.d) ?_ o1 (go_ret ?_))))))
    · generalize fD F = FD at *
      generalize fD G = GD at *
      simp [can]
    · have nz : ¬ ((F.length : Nat) : Int) = 0 := by omega
      generalize fD F = FD at *
      generalize fD G = GD at *
      generalize ((F.length : Nat) : Int) = n at *
      simp [len, nz]
    · generalize fD F = FD at *
      generalize fD G = GD at *
      generalize q0.d = QD at *
      generalize p0.d = PD at *
      simp [i0, iN, j0, j1, ng, gd]
    · generalize fD G = GD at *
      unfold fD
      simp [items]
    · generalize fD F = FD at *
      generalize fD G = GD at *
      simp [a2, eqG]
end Den
namespace LawK26
open PySem PySem.Spec PyProof.Rows L2 Den
def d_down : DefM := ⟨1, "down", ["a", "b"], ["a", "b"], [], false, b_down⟩
def d_up : DefM := ⟨2, "up", ["a", "b"], ["a", "b"], [], false, b_up⟩
def d_line_at : DefM := ⟨7, "line_at", ["line", "low", "x"], ["line", "low", "x"], [], false, b_line_at⟩
def d_no_dearer : DefM := ⟨12, "no_dearer", ["one", "other", "low", "high"], ["one", "other", "low", "high", "price", "step", "first", "last"], [], false, b_no_dearer⟩
def d_lower_line : DefM := ⟨18, "lower_line", ["one", "other", "low", "high"], ["one", "other", "low", "high", "found", "told", "first", "last"], [5], true, b_lower_line⟩
def d_drawn_on : DefM := ⟨31, "drawn_on", ["stretch", "x"], ["stretch", "x"], [], false, b_drawn_on⟩
def d_joins : DefM := ⟨32, "joins", ["stretch", "low", "price"], ["stretch", "low", "price"], [], false, b_joins⟩
def d_begun : DefM := ⟨41, "begun", ["low", "high", "price", "step"], ["low", "high", "price", "step"], [], false, b_begun⟩
def d_laid : DefM := ⟨42, "laid", ["rows"], ["rows", "told", "low", "high", "price", "step", "first", "own"], [1], false, b_laid⟩
def d_at_least : DefM := ⟨93, "at_least", ["form"], ["form", "rows", "least_so_far", "behind", "low", "high", "price", "step", "end"], [], false, b_at_least⟩
def d_law_cell : DefM := ⟨24, "_law_cell", ["script", "k"], ["script", "k"], [], false, b_law_cell⟩
def d_law_numbers_3 : DefM := ⟨59, "_law_numbers", ["script", "start", "most"], ["script", "start", "most", "told", "k"], [3], true, b_law_numbers_3⟩
def d_law_start : DefM := ⟨34, "_law_start", ["cell"], ["cell"], [], false, b_law_start⟩
def d_law_form : DefM := ⟨35, "_law_form", ["cells", "start"], ["cells", "start", "told", "at", "cell", "m", "gap", "count", "step", "price", "low"], [2], false, b_law_form⟩
def d_law_whole : DefM := ⟨4, "_law_whole", ["found"], ["found"], [], false, b_law_whole⟩
def d_law_stretch : DefM := ⟨36, "_law_stretch", ["part"], ["part", "number"], [], false, b_law_stretch⟩
def d_law_canon : DefM := ⟨37, "_law_canon", ["value"], ["value", "k", "ahead", "on"], [], false, b_law_canon⟩
def d_law_cost_2 : DefM := ⟨45, "_law_cost", ["parts", "x"], ["parts", "x", "part"], [], false, b_law_cost_2⟩
def d_law_no_gap : DefM := ⟨94, "_law_no_gap", ["found", "low", "high"], ["found", "low", "high", "at", "part"], [], false, b_law_no_gap⟩
def d_law_good_3 : DefM := ⟨95, "_law_good", ["found", "form"], ["found", "form", "k", "last", "behind", "ends", "low", "high", "price", "step"], [], false, b_law_good_3⟩
def d_law : DefM := ⟨365, "law", ["script"], ["script", "form", "found", "part", "ends", "other", "x", "own"], [4], false, b_law⟩
def topS (i : Nat) : Stmt := PySem.Challenge.pw_offerhouse_k26_at_least_so_much.main.body.getD i (.Pass ⟨0, 0, 0, 0⟩)
def top : Top := ⟨[], ["bool", "int", "isinstance", "len", "max", "min", "range", "reversed", "tuple"], [], [], []⟩
def l_down : List DefM := d_down :: []
theorem c_down : chk1 top d_down [] (topS 1) = true := by decide +kernel
def f_down : List D → R D := runF (fnL fuel []) fuel 2 false b_down
theorem sp_down : S_down f_down := down_sp (fn := fnL fuel []) 
def l_up : List DefM := d_up :: l_down
theorem c_up : chk1 top d_up l_down (topS 2) = true := by decide +kernel
def f_up : List D → R D := runF (fnL fuel l_down) fuel 2 false b_up
theorem sp_up : S_up f_up := up_sp (fn := fnL fuel l_down) 
def l_line_at : List DefM := d_line_at :: l_up
theorem c_line_at : chk1 top d_line_at l_up (topS 3) = true := by decide +kernel
def f_line_at : List D → R D := runF (fnL fuel l_up) fuel 3 false b_line_at
theorem sp_line_at : S_line_at f_line_at := line_at_sp (fn := fnL fuel l_up) 
def l_no_dearer : List DefM := d_no_dearer :: l_line_at
theorem c_no_dearer : chk1 top d_no_dearer l_line_at (topS 4) = true := by decide +kernel
def f_no_dearer : List D → R D := runF (fnL fuel l_line_at) fuel 8 false b_no_dearer
theorem k_no_dearer_down : fnL fuel l_line_at 1 = f_down := rfl
theorem k_no_dearer_up : fnL fuel l_line_at 2 = f_up := rfl
theorem sp_no_dearer : S_no_dearer f_no_dearer := no_dearer_sp (fn := fnL fuel l_line_at) (by rw [k_no_dearer_down]; exact sp_down) (by rw [k_no_dearer_up]; exact sp_up)
def l_lower_line : List DefM := d_lower_line :: l_no_dearer
theorem c_lower_line : chk1 top d_lower_line l_no_dearer (topS 5) = true := by decide +kernel
def f_lower_line : List D → R D := runF (fnL fuel l_no_dearer) fuel 8 true b_lower_line
theorem k_lower_line_line_at : fnL fuel l_no_dearer 7 = f_line_at := rfl
theorem k_lower_line_no_dearer : fnL fuel l_no_dearer 12 = f_no_dearer := rfl
theorem sp_lower_line : S_lower_line f_lower_line := lower_line_sp (fn := fnL fuel l_no_dearer) (by rw [k_lower_line_line_at]; exact sp_line_at) (by rw [k_lower_line_no_dearer]; exact sp_no_dearer)
def l_drawn_on : List DefM := d_drawn_on :: l_lower_line
theorem c_drawn_on : chk1 top d_drawn_on l_lower_line (topS 7) = true := by decide +kernel
def f_drawn_on : List D → R D := runF (fnL fuel l_lower_line) fuel 2 false b_drawn_on
theorem k_drawn_on_line_at : fnL fuel l_lower_line 7 = f_line_at := rfl
theorem sp_drawn_on : S_drawn_on f_drawn_on := drawn_on_sp (fn := fnL fuel l_lower_line) (by rw [k_drawn_on_line_at]; exact sp_line_at)
def l_joins : List DefM := d_joins :: l_drawn_on
theorem c_joins : chk1 top d_joins l_drawn_on (topS 8) = true := by decide +kernel
def f_joins : List D → R D := runF (fnL fuel l_drawn_on) fuel 3 false b_joins
theorem k_joins_drawn_on : fnL fuel l_drawn_on 31 = f_drawn_on := rfl
theorem sp_joins : S_joins f_joins := joins_sp (fn := fnL fuel l_drawn_on) (by rw [k_joins_drawn_on]; exact sp_drawn_on)
def l_begun : List DefM := d_begun :: l_joins
theorem c_begun : chk1 top d_begun l_joins (topS 9) = true := by decide +kernel
def f_begun : List D → R D := runF (fnL fuel l_joins) fuel 4 false b_begun
theorem sp_begun : S_begun f_begun := begun_sp (fn := fnL fuel l_joins) 
def l_laid : List DefM := d_laid :: l_begun
theorem c_laid : chk1 top d_laid l_begun (topS 10) = true := by decide +kernel
def f_laid : List D → R D := runF (fnL fuel l_begun) fuel 8 false b_laid
theorem k_laid_joins : fnL fuel l_begun 32 = f_joins := rfl
theorem k_laid_begun : fnL fuel l_begun 41 = f_begun := rfl
theorem sp_laid : S_laid f_laid := laid_sp (fn := fnL fuel l_begun) (by rw [k_laid_joins]; exact sp_joins) (by rw [k_laid_begun]; exact sp_begun)
def l_at_least : List DefM := d_at_least :: l_laid
theorem c_at_least : chk1 top d_at_least l_laid (topS 12) = true := by decide +kernel
def f_at_least : List D → R D := runF (fnL fuel l_laid) fuel 9 false b_at_least
theorem k_at_least_line_at : fnL fuel l_laid 7 = f_line_at := rfl
theorem k_at_least_lower_line : fnL fuel l_laid 18 = f_lower_line := rfl
theorem k_at_least_laid : fnL fuel l_laid 42 = f_laid := rfl
theorem sp_at_least : S_at_least f_at_least := at_least_sp (fn := fnL fuel l_laid) (by rw [k_at_least_line_at]; exact sp_line_at) (by rw [k_at_least_lower_line]; exact sp_lower_line) (by rw [k_at_least_laid]; exact sp_laid)
def l_law_cell : List DefM := d_law_cell :: l_at_least
theorem c_law_cell : chk1 top d_law_cell l_at_least (topS 14) = true := by decide +kernel
def f_law_cell : List D → R D := runF (fnL fuel l_at_least) fuel 2 false b_law_cell
theorem sp_law_cell : S_law_cell f_law_cell := law_cell_sp (fn := fnL fuel l_at_least) 
def l_law_numbers_3 : List DefM := d_law_numbers_3 :: l_law_cell
theorem c_law_numbers_3 : chk1 top d_law_numbers_3 l_law_cell (topS 15) = true := by decide +kernel
def f_law_numbers_3 : List D → R D := runF (fnL fuel l_law_cell) fuel 5 true b_law_numbers_3
theorem sp_law_numbers_3 : S_law_numbers_3 f_law_numbers_3 := law_numbers_3_sp (fn := fnL fuel l_law_cell) 
def l_law_start : List DefM := d_law_start :: l_law_numbers_3
theorem c_law_start : chk1 top d_law_start l_law_numbers_3 (topS 16) = true := by decide +kernel
def f_law_start : List D → R D := runF (fnL fuel l_law_numbers_3) fuel 1 false b_law_start
theorem sp_law_start : S_law_start f_law_start := law_start_sp (fn := fnL fuel l_law_numbers_3) 
def l_law_form : List DefM := d_law_form :: l_law_start
theorem c_law_form : chk1 top d_law_form l_law_start (topS 17) = true := by decide +kernel
def f_law_form : List D → R D := runF (fnL fuel l_law_start) fuel 11 false b_law_form
theorem sp_law_form : S_law_form f_law_form := law_form_sp (fn := fnL fuel l_law_start) 
def l_law_whole : List DefM := d_law_whole :: l_law_form
theorem c_law_whole : chk1 top d_law_whole l_law_form (topS 18) = true := by decide +kernel
def f_law_whole : List D → R D := runF (fnL fuel l_law_form) fuel 1 false b_law_whole
theorem sp_law_whole : S_law_whole f_law_whole := law_whole_sp (fn := fnL fuel l_law_form) 
def l_law_stretch : List DefM := d_law_stretch :: l_law_whole
theorem c_law_stretch : chk1 top d_law_stretch l_law_whole (topS 19) = true := by decide +kernel
def f_law_stretch : List D → R D := runF (fnL fuel l_law_whole) fuel 2 false b_law_stretch
theorem k_law_stretch_law_whole : fnL fuel l_law_whole 4 = f_law_whole := rfl
theorem sp_law_stretch : S_law_stretch f_law_stretch := law_stretch_sp (fn := fnL fuel l_law_whole) (by rw [k_law_stretch_law_whole]; exact sp_law_whole)
def l_law_canon : List DefM := d_law_canon :: l_law_stretch
theorem c_law_canon : chk1 top d_law_canon l_law_stretch (topS 20) = true := by decide +kernel
def f_law_canon : List D → R D := runF (fnL fuel l_law_stretch) fuel 4 false b_law_canon
theorem k_law_canon_law_stretch : fnL fuel l_law_stretch 36 = f_law_stretch := rfl
theorem sp_law_canon : S_law_canon f_law_canon := law_canon_sp (fn := fnL fuel l_law_stretch) (by rw [k_law_canon_law_stretch]; exact sp_law_stretch)
def l_law_cost_2 : List DefM := d_law_cost_2 :: l_law_canon
theorem c_law_cost_2 : chk1 top d_law_cost_2 l_law_canon (topS 21) = true := by decide +kernel
def f_law_cost_2 : List D → R D := runF (fnL fuel l_law_canon) fuel 3 false b_law_cost_2
theorem sp_law_cost_2 : S_law_cost_2 f_law_cost_2 := law_cost_2_sp (fn := fnL fuel l_law_canon) 
def l_law_no_gap : List DefM := d_law_no_gap :: l_law_cost_2
theorem c_law_no_gap : chk1 top d_law_no_gap l_law_cost_2 (topS 22) = true := by decide +kernel
def f_law_no_gap : List D → R D := runF (fnL fuel l_law_cost_2) fuel 5 false b_law_no_gap
theorem sp_law_no_gap : S_law_no_gap f_law_no_gap := law_no_gap_sp (fn := fnL fuel l_law_cost_2) 
def l_law_good_3 : List DefM := d_law_good_3 :: l_law_no_gap
theorem c_law_good_3 : chk1 top d_law_good_3 l_law_no_gap (topS 23) = true := by decide +kernel
def f_law_good_3 : List D → R D := runF (fnL fuel l_law_no_gap) fuel 10 false b_law_good_3
theorem k_law_good_3_law_cost_2 : fnL fuel l_law_no_gap 45 = f_law_cost_2 := rfl
theorem sp_law_good_3 : S_law_good_3 f_law_good_3 := law_good_3_sp (fn := fnL fuel l_law_no_gap) (by rw [k_law_good_3_law_cost_2]; exact sp_law_cost_2)
def l_law : List DefM := d_law :: l_law_good_3
theorem c_law : chk1 top d_law l_law_good_3 (topS 24) = true := by decide +kernel
def f_law : List D → R D := runF (fnL fuel l_law_good_3) fuel 8 false b_law
theorem k_law_at_least : fnL fuel l_law_good_3 93 = f_at_least := rfl
theorem k_law_law_cell : fnL fuel l_law_good_3 24 = f_law_cell := rfl
theorem k_law_law_numbers_3 : fnL fuel l_law_good_3 59 = f_law_numbers_3 := rfl
theorem k_law_law_start : fnL fuel l_law_good_3 34 = f_law_start := rfl
theorem k_law_law_form : fnL fuel l_law_good_3 35 = f_law_form := rfl
theorem k_law_law_canon : fnL fuel l_law_good_3 37 = f_law_canon := rfl
theorem k_law_law_cost_2 : fnL fuel l_law_good_3 45 = f_law_cost_2 := rfl
theorem k_law_law_no_gap : fnL fuel l_law_good_3 94 = f_law_no_gap := rfl
theorem k_law_law_good_3 : fnL fuel l_law_good_3 95 = f_law_good_3 := rfl
theorem sp_law : S_law f_law := law_sp (fn := fnL fuel l_law_good_3) (by rw [k_law_at_least]; exact sp_at_least) (by rw [k_law_law_cell]; exact sp_law_cell) (by rw [k_law_law_start]; exact sp_law_start) (by rw [k_law_law_form]; exact sp_law_form) (by rw [k_law_law_canon]; exact sp_law_canon) (by rw [k_law_law_numbers_3]; exact sp_law_numbers_3) (by rw [k_law_law_cost_2]; exact sp_law_cost_2) (by rw [k_law_law_no_gap]; exact sp_law_no_gap) (by rw [k_law_law_good_3]; exact sp_law_good_3)
theorem k_top : fnL fuel l_law 365 = f_law := rfl
theorem math (ns : List Int) (hl : ns.length ≤ 63) (hb : ∀ z ∈ ns, Builtin.Int.intBits z ≤ 1048576) : fnL fuel l_law 365 [.lst (ns.map .int)] = .ok (.bl true) := by
  rw [k_top]; exact sp_law ns hl hb
theorem all_mk {P : Program} {w : World} {K : PySem.W.Frag} {mg : Str → Option Value} {fa : Addr} (hfa : mg "law" = some (.ref fa)) (p_down : Placed K mg d_down (topS 1)) (p_up : Placed K mg d_up (topS 2)) (p_line_at : Placed K mg d_line_at (topS 3)) (p_no_dearer : Placed K mg d_no_dearer (topS 4)) (p_lower_line : Placed K mg d_lower_line (topS 5)) (p_drawn_on : Placed K mg d_drawn_on (topS 7)) (p_joins : Placed K mg d_joins (topS 8)) (p_begun : Placed K mg d_begun (topS 9)) (p_laid : Placed K mg d_laid (topS 10)) (p_at_least : Placed K mg d_at_least (topS 12)) (p_law_cell : Placed K mg d_law_cell (topS 14)) (p_law_numbers_3 : Placed K mg d_law_numbers_3 (topS 15)) (p_law_start : Placed K mg d_law_start (topS 16)) (p_law_form : Placed K mg d_law_form (topS 17)) (p_law_whole : Placed K mg d_law_whole (topS 18)) (p_law_stretch : Placed K mg d_law_stretch (topS 19)) (p_law_canon : Placed K mg d_law_canon (topS 20)) (p_law_cost_2 : Placed K mg d_law_cost_2 (topS 21)) (p_law_no_gap : Placed K mg d_law_no_gap (topS 22)) (p_law_good_3 : Placed K mg d_law_good_3 (topS 23)) (p_law : Placed K mg d_law (topS 24)) (z_bool : mg "bool" = none) (z_int : mg "int" = none) (z_isinstance : mg "isinstance" = none) (z_len : mg "len" = none) (z_max : mg "max" = none) (z_min : mg "min" = none) (z_range : mg "range" = none) (z_reversed : mg "reversed" = none) (z_tuple : mg "tuple" = none)     :
    ∃ fd : FuncData, (∀ (s : Shared) (v : Value), BindsTo s fd ⟨[v], []⟩ [("script", v)]) ∧ ∀ base : Heap, K.In base → base.Ns mainGlobals mg → FnOk P w K mg base (L2.CX P w) 21 fa fd ["script"] (spL K (fnL fuel l_law 365)) :=
  law_fn (t := top) (d := d_law) (r := l_law_good_3) "script" rfl rfl hfa (List.forall_mem_cons.mpr ⟨z_bool, (List.forall_mem_cons.mpr ⟨z_int, (List.forall_mem_cons.mpr ⟨z_isinstance, (List.forall_mem_cons.mpr ⟨z_len, (List.forall_mem_cons.mpr ⟨z_max, (List.forall_mem_cons.mpr ⟨z_min, (List.forall_mem_cons.mpr ⟨z_range, (List.forall_mem_cons.mpr ⟨z_reversed, (List.forall_mem_cons.mpr ⟨z_tuple, (fun _ h => nomatch h)⟩)⟩)⟩)⟩)⟩)⟩)⟩)⟩)⟩) (fun _ h => nomatch h) (fun _ h => nomatch h) (fun _ h => nomatch h) (fun _ h => nomatch h) c_law (.cons (topS 23) c_law_good_3 p_law_good_3 (.cons (topS 22) c_law_no_gap p_law_no_gap (.cons (topS 21) c_law_cost_2 p_law_cost_2 (.cons (topS 20) c_law_canon p_law_canon (.cons (topS 19) c_law_stretch p_law_stretch (.cons (topS 18) c_law_whole p_law_whole (.cons (topS 17) c_law_form p_law_form (.cons (topS 16) c_law_start p_law_start (.cons (topS 15) c_law_numbers_3 p_law_numbers_3 (.cons (topS 14) c_law_cell p_law_cell (.cons (topS 12) c_at_least p_at_least (.cons (topS 10) c_laid p_laid (.cons (topS 9) c_begun p_begun (.cons (topS 8) c_joins p_joins (.cons (topS 7) c_drawn_on p_drawn_on (.cons (topS 5) c_lower_line p_lower_line (.cons (topS 4) c_no_dearer p_no_dearer (.cons (topS 3) c_line_at p_line_at (.cons (topS 2) c_up p_up (.cons (topS 1) c_down p_down .nil)))))))))))))))))))) p_law
end LawK26
open PySem PySem.W PyProof.Rows
set_option maxHeartbeats 0 in
theorem PySem.Challenge.cw_offerhouse_k26_at_least_so_much_holds : PySem.Challenge.rw_offerhouse_k26_at_least_so_much.Holds := by
  w_on; o_law; k_head; (case hw => w_witness2)
  k_fill
  refine L2.walk_ofB (l := PySem.Challenge.rw_offerhouse_k26_at_least_so_much) (n := 63) (k := 21) (x := "script") (CX := fun w => L2.CX PySem.Challenge.rw_offerhouse_k26_at_least_so_much.prog w) (sp := fun w => Den.spL _ (Den.fnL Den.fuel LawK26.l_law 365)) rfl (by decide) rfl ⟨rfl, by decide, by decide⟩ (fun w h Y => PySem.W.kIn_of Y) ?F (fun w H a ns hl hb _ hS => Den.sp_law hS (LawK26.math ns hl hb)) (fun _ _ _ _ _ h => Den.cx_false h)
  case F =>
    intro w mg fa h KX G hmg
    refine' LawK26.all_mk hmg ?p_down ?p_up ?p_line_at ?p_no_dearer ?p_lower_line ?p_drawn_on ?p_joins ?p_begun ?p_laid ?p_at_least ?p_law_cell ?p_law_numbers_3 ?p_law_start ?p_law_form ?p_law_whole ?p_law_stretch ?p_law_canon ?p_law_cost_2 ?p_law_no_gap ?p_law_good_3 ?p_law ?z_bool ?z_int ?z_isinstance ?z_len ?z_max ?z_min ?z_range ?z_reversed ?z_tuple
    case p_down =>
      refine' Den.placed_mk KX G "down" ["a", "b"] rfl rfl ?a_down ?l_down ?c_down ?k_down ?b_down
      (case a_down => k_is); (case l_down => k_is); (case c_down => k_is); (case k_down => k_is)
      (case b_down => intro us hl; match us, hl with | [_, _], _ => rfl)
    case p_up =>
      refine' Den.placed_mk KX G "up" ["a", "b"] rfl rfl ?a_up ?l_up ?c_up ?k_up ?b_up
      (case a_up => k_is); (case l_up => k_is); (case c_up => k_is); (case k_up => k_is)
      (case b_up => intro us hl; match us, hl with | [_, _], _ => rfl)
    case p_line_at =>
      refine' Den.placed_mk KX G "line_at" ["line", "low", "x"] rfl rfl ?a_line_at ?l_line_at ?c_line_at ?k_line_at ?b_line_at
      (case a_line_at => k_is); (case l_line_at => k_is); (case c_line_at => k_is); (case k_line_at => k_is)
      (case b_line_at => intro us hl; match us, hl with | [_, _, _], _ => rfl)
    case p_no_dearer =>
      refine' Den.placed_mk KX G "no_dearer" ["one", "other", "low", "high"] rfl rfl ?a_no_dearer ?l_no_dearer ?c_no_dearer ?k_no_dearer ?b_no_dearer
      (case a_no_dearer => k_is); (case l_no_dearer => k_is); (case c_no_dearer => k_is); (case k_no_dearer => k_is)
      (case b_no_dearer => intro us hl; match us, hl with | [_, _, _, _], _ => rfl)
    case p_lower_line =>
      refine' Den.placed_mk KX G "lower_line" ["one", "other", "low", "high"] rfl rfl ?a_lower_line ?l_lower_line ?c_lower_line ?k_lower_line ?b_lower_line
      (case a_lower_line => k_is); (case l_lower_line => k_is); (case c_lower_line => k_is); (case k_lower_line => k_is)
      (case b_lower_line => intro us hl; match us, hl with | [_, _, _, _], _ => rfl)
    case p_drawn_on =>
      refine' Den.placed_mk KX G "drawn_on" ["stretch", "x"] rfl rfl ?a_drawn_on ?l_drawn_on ?c_drawn_on ?k_drawn_on ?b_drawn_on
      (case a_drawn_on => k_is); (case l_drawn_on => k_is); (case c_drawn_on => k_is); (case k_drawn_on => k_is)
      (case b_drawn_on => intro us hl; match us, hl with | [_, _], _ => rfl)
    case p_joins =>
      refine' Den.placed_mk KX G "joins" ["stretch", "low", "price"] rfl rfl ?a_joins ?l_joins ?c_joins ?k_joins ?b_joins
      (case a_joins => k_is); (case l_joins => k_is); (case c_joins => k_is); (case k_joins => k_is)
      (case b_joins => intro us hl; match us, hl with | [_, _, _], _ => rfl)
    case p_begun =>
      refine' Den.placed_mk KX G "begun" ["low", "high", "price", "step"] rfl rfl ?a_begun ?l_begun ?c_begun ?k_begun ?b_begun
      (case a_begun => k_is); (case l_begun => k_is); (case c_begun => k_is); (case k_begun => k_is)
      (case b_begun => intro us hl; match us, hl with | [_, _, _, _], _ => rfl)
    case p_laid =>
      refine' Den.placed_mk KX G "laid" ["rows"] rfl rfl ?a_laid ?l_laid ?c_laid ?k_laid ?b_laid
      (case a_laid => k_is); (case l_laid => k_is); (case c_laid => k_is); (case k_laid => k_is)
      (case b_laid => intro us hl; match us, hl with | [_], _ => rfl)
    case p_at_least =>
      refine' Den.placed_mk KX G "at_least" ["form"] rfl rfl ?a_at_least ?l_at_least ?c_at_least ?k_at_least ?b_at_least
      (case a_at_least => k_is); (case l_at_least => k_is); (case c_at_least => k_is); (case k_at_least => k_is)
      (case b_at_least => intro us hl; match us, hl with | [_], _ => rfl)
    case p_law_cell =>
      refine' Den.placed_mk KX G "_law_cell" ["script", "k"] rfl rfl ?a_law_cell ?l_law_cell ?c_law_cell ?k_law_cell ?b_law_cell
      (case a_law_cell => k_is); (case l_law_cell => k_is); (case c_law_cell => k_is); (case k_law_cell => k_is)
      (case b_law_cell => intro us hl; match us, hl with | [_, _], _ => rfl)
    case p_law_numbers_3 =>
      refine' Den.placed_mk KX G "_law_numbers" ["script", "start", "most"] rfl rfl ?a_law_numbers_3 ?l_law_numbers_3 ?c_law_numbers_3 ?k_law_numbers_3 ?b_law_numbers_3
      (case a_law_numbers_3 => k_is); (case l_law_numbers_3 => k_is); (case c_law_numbers_3 => k_is); (case k_law_numbers_3 => k_is)
      (case b_law_numbers_3 => intro us hl; match us, hl with | [_, _, _], _ => rfl)
    case p_law_start =>
      refine' Den.placed_mk KX G "_law_start" ["cell"] rfl rfl ?a_law_start ?l_law_start ?c_law_start ?k_law_start ?b_law_start
      (case a_law_start => k_is); (case l_law_start => k_is); (case c_law_start => k_is); (case k_law_start => k_is)
      (case b_law_start => intro us hl; match us, hl with | [_], _ => rfl)
    case p_law_form =>
      refine' Den.placed_mk KX G "_law_form" ["cells", "start"] rfl rfl ?a_law_form ?l_law_form ?c_law_form ?k_law_form ?b_law_form
      (case a_law_form => k_is); (case l_law_form => k_is); (case c_law_form => k_is); (case k_law_form => k_is)
      (case b_law_form => intro us hl; match us, hl with | [_, _], _ => rfl)
    case p_law_whole =>
      refine' Den.placed_mk KX G "_law_whole" ["found"] rfl rfl ?a_law_whole ?l_law_whole ?c_law_whole ?k_law_whole ?b_law_whole
      (case a_law_whole => k_is); (case l_law_whole => k_is); (case c_law_whole => k_is); (case k_law_whole => k_is)
      (case b_law_whole => intro us hl; match us, hl with | [_], _ => rfl)
    case p_law_stretch =>
      refine' Den.placed_mk KX G "_law_stretch" ["part"] rfl rfl ?a_law_stretch ?l_law_stretch ?c_law_stretch ?k_law_stretch ?b_law_stretch
      (case a_law_stretch => k_is); (case l_law_stretch => k_is); (case c_law_stretch => k_is); (case k_law_stretch => k_is)
      (case b_law_stretch => intro us hl; match us, hl with | [_], _ => rfl)
    case p_law_canon =>
      refine' Den.placed_mk KX G "_law_canon" ["value"] rfl rfl ?a_law_canon ?l_law_canon ?c_law_canon ?k_law_canon ?b_law_canon
      (case a_law_canon => k_is); (case l_law_canon => k_is); (case c_law_canon => k_is); (case k_law_canon => k_is)
      (case b_law_canon => intro us hl; match us, hl with | [_], _ => rfl)
    case p_law_cost_2 =>
      refine' Den.placed_mk KX G "_law_cost" ["parts", "x"] rfl rfl ?a_law_cost_2 ?l_law_cost_2 ?c_law_cost_2 ?k_law_cost_2 ?b_law_cost_2
      (case a_law_cost_2 => k_is); (case l_law_cost_2 => k_is); (case c_law_cost_2 => k_is); (case k_law_cost_2 => k_is)
      (case b_law_cost_2 => intro us hl; match us, hl with | [_, _], _ => rfl)
    case p_law_no_gap =>
      refine' Den.placed_mk KX G "_law_no_gap" ["found", "low", "high"] rfl rfl ?a_law_no_gap ?l_law_no_gap ?c_law_no_gap ?k_law_no_gap ?b_law_no_gap
      (case a_law_no_gap => k_is); (case l_law_no_gap => k_is); (case c_law_no_gap => k_is); (case k_law_no_gap => k_is)
      (case b_law_no_gap => intro us hl; match us, hl with | [_, _, _], _ => rfl)
    case p_law_good_3 =>
      refine' Den.placed_mk KX G "_law_good" ["found", "form"] rfl rfl ?a_law_good_3 ?l_law_good_3 ?c_law_good_3 ?k_law_good_3 ?b_law_good_3
      (case a_law_good_3 => k_is); (case l_law_good_3 => k_is); (case c_law_good_3 => k_is); (case k_law_good_3 => k_is)
      (case b_law_good_3 => intro us hl; match us, hl with | [_, _], _ => rfl)
    case p_law =>
      refine' Den.placed_mk KX G "law" ["script"] rfl rfl ?a_law ?l_law ?c_law ?k_law ?b_law
      (case a_law => k_is); (case l_law => k_is); (case c_law => k_is); (case k_law => k_is)
      (case b_law => intro us hl; match us, hl with | [_], _ => rfl)
    (case z_bool => exact Den.none_mk KX G (by k_is))
    (case z_int => exact Den.none_mk KX G (by k_is))
    (case z_isinstance => exact Den.none_mk KX G (by k_is))
    (case z_len => exact Den.none_mk KX G (by k_is))
    (case z_max => exact Den.none_mk KX G (by k_is))
    (case z_min => exact Den.none_mk KX G (by k_is))
    (case z_range => exact Den.none_mk KX G (by k_is))
    (case z_reversed => exact Den.none_mk KX G (by k_is))
    (case z_tuple => exact Den.none_mk KX G (by k_is))
