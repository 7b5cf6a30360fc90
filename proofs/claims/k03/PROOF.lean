import PyProof.Rows.All
import Wide.All
import OpenK.AllK
import Wide.FinOn
import HandS.Base
import HandS.Words
import KE.KStateDown
import HandS.Head0
import HandS.Head1
import HandS.Head2
import HandS.HeadHook1
import HandS.Call
import HandS.List
import HandS.Comp
import HandS.Iter
import HandS.Exc
import HandS.ExcOwn
import HandS.TryOnly
import HandS.TupAny
import HandS.IsInst
import HandS.Ends
import HandS.EndBits
import HandS.Rev
import HandS.Zip
import HandS.SortInts
import HandS.NoneIn
import HandS.Dict
import HandS.Conv
import HandS.Text
import PyProof.StrOps2
import KE.KTupSum
import KE.SortData
import KE.DataMinMax
import HandS.SortKw
import PyProof.LongRange
import PyProof.ListRange
import KE.DataEq
import KE.DataCmp
import KE.GoesRaise
import KE.GoesEnum
import KE.KDictZip
import PyProof.ZipIter
import HandS.OwnIter
import HandS.SetFor
import HandS.Strs
import HandS.RevTup
import HandS.Replace
import HandS.SetTxt0
import PyProof.Rows.SortStr
import PyProof.Rows.SortKeyStr
import HandS.DeepEq
import HandS.ExcIs
import HandS.TryMany
import PySem.Challenge.RW_offerhouse_k03_no_dearer_near
set_option Elab.async false
set_option linter.all false
set_option maxRecDepth 100000
namespace Den
open PySem PySem.Spec PyProof.Rows L2
def clsNm : Nat → Str
  | 0 => "Rule" | 1 => "Each" | 2 => "Flat" | 3 => "Bands" | 4 => "Steps" | 5 => "Blocks" | 6 => "Named" | 7 => "Pair" | 8 => "Sum" | 9 => "Cheaper" | 10 => "Dearer"
  | 11 => "Turned" | 12 => "Only" | 13 => "After" | 14 => "Roomy" | 15 => "Fee" | 16 => "Book" | 17 => "Desk" | _ => ""
def fldN : Nat → List Str
  | 1 => ["unit", "low", "high"] | 2 => ["price", "low", "high"] | 3 => ["rows"] | 4 => ["rows"] | 5 => ["size", "price", "many"] | 6 => ["name"]
  | 8 => ["one", "other"] | 9 => ["one", "other"] | 10 => ["one", "other"] | 12 => ["one", "low", "high"] | 13 => ["one", "count"] | 14 => ["one"] | 15 => ["one", "price"]
  | 16 => ["offers"] | 17 => ["offers", "past"] | _ => []
def clsAt (K : PySem.W.Frag) (c : Nat) : Option Addr := match PySem.W.nsIn K mainGlobals (clsNm c) with
  | some (some (.ref C)) => some C
  | _ => none
def mNm : Nat → Str
  | 0 => "inner" | 1 => "own_names" | 2 => "names" | 3 => "look_at" | 4 => "priced" | 5 => "drawn" | 6 => "made" | 7 => "cost" | 8 => "form" | 9 => "written" | 10 => "word" | 11 => "tail"
  | 12 => "turned_to" | 13 => "put" | 14 => "drop" | 15 => "back" | 17 => "text" | 18 => "deeds" | 19 => "quote" | 20 => "sellers" | 21 => "filled" | 22 => "paper" | _ => ""
/-- is a class the other one or under it? -/
def subC (c y : Nat) : Bool := decide (c = y) || (decide (y = 0) && decide (c ≤ 15)) || (decide (y = 7) && decide (8 ≤ c ∧ c ≤ 10)) || (decide (y = 11) && decide (12 ≤ c ∧ c ≤ 15))
end Den
namespace Den
open PySem PySem.Spec PyProof.Rows L2
def isBlt (s : String) : Option (Option Value) → Bool
  | some (some (.builtin t)) => decide (t = s)
  | _ => false
def isNo : Option (Option Value) → Bool
  | some none => true
  | _ => false
def clsB (K : PySem.W.Frag) (isc : List Nat) (c : Nat) (C : Addr) : Bool := PySem.W.plainGet K C Str.empty && PySem.W.hasDictIn K C && PySem.W.plainOver K C && isBlt "object.__setattr__" (PySem.W.findIn K (.ref C) "__setattr__") && isBlt "object.__class__" (PySem.W.findIn K (.ref C) "__class__") &&
  decide (PySem.W.mroIn K C (.type "object") = some true) && (fldN c).all (fun f => isNo (PySem.W.findIn K (.ref C) f)) && isc.all fun y => match clsAt K y with
    | some Y => decide (PySem.W.kitOne K (.ref C) (.ref Y) = some (subC c y))
    | none => false
/-- all classes by number: there and good, or not there -/
def clssB (K : PySem.W.Frag) (isc cls : List Nat) : Bool := (List.range 18).all fun c => match clsAt K c with
  | some C => cls.contains c && clsB K isc c C
  | none => true
/-- what a part of the heap says, a larger one says -/
def Sub (K L : PySem.W.Frag) : Prop := ∀ a o, K.lookup a = some o → L.lookup a = some o
end Den
namespace Den
open PySem PySem.Spec PyProof.Rows L2
inductive D where
  | non | bl (b : Bool) | int (i : Int) | str (s : Str)
  | tup (xs : List D) | lst (xs : List D)
  /-- a dict of whole numbers and texts (f: locked, it may be walked); one of tuples of these -/
  | dct (f : Bool) (ks : List Key) (vs : List D)
  | dcT (ks : List (List Key)) (vs : List D)
  /-- an object of the program's own classes, by the class's number -/
  | obj (c : Nat) (fs : List D)
  deriving Inhabited
mutual
inductive Rp (K : PySem.W.Frag) (G : Hp) : V → D → Prop
  | non : Rp K G .non .non
  | bl (b : Bool) : Rp K G (.bl b) (.bl b)
  | int (i : Int) : Rp K G (.int i) (.int i)
  | str (x : Str) : Rp K G (.str x) (.str x)
  | lst {a : Addr} {xs : List V} {ds : List D} : SqL K G a xs → RpL K G xs ds → Rp K G (.ref a) (.lst ds)
  | tup {a : Addr} {xs : List V} {ds : List D} : SqT K G a xs → RpL K G xs ds → Rp K G (.ref a) (.tup ds)
  | dct {a : Addr} {kvs : List (Key × V)} {ds : List D} : G a = some (.dK kvs) → RpL K G (kvs.map (·.2)) ds → Rp K G (.ref a) (.dct false (kvs.map (·.1)) ds)
  | dctL {a : Addr} {o : Obj} {kvs : List (Key × V)} {ds : List D} : G a = some (.frz o (.dK kvs)) → RpL K G (kvs.map (·.2)) ds → Rp K G (.ref a) (.dct true (kvs.map (·.1)) ds)
  | dcT {a : Addr} {kvs : List (List Key × V)} {ds : List D} : G a = some (.dT kvs) → RpL K G (kvs.map (·.2)) ds → Rp K G (.ref a) (.dcT (kvs.map (·.1)) ds)
  | obj {a C dx : Addr} {c : Nat} {kvs : List (Str × V)} {ds : List D} : clsAt K c = some C → G a = some (.ins C dx kvs) → kvs.map (·.1) = fldN c → RpL K G (kvs.map (·.2)) ds → Rp K G (.ref a) (.obj c ds)
inductive RpL (K : PySem.W.Frag) (G : Hp) : List V → List D → Prop
  | nil : RpL K G [] []
  | cons {v : V} {vs : List V} {d : D} {ds : List D} : Rp K G v d → RpL K G vs ds → RpL K G (v :: vs) (d :: ds)
end
section
variable {K : PySem.W.Frag} {G G' H H' : Hp}
theorem seqT (e : Same H H') {a : Addr} {xs : List V} (h : SqT K H a xs) : SqT K H' a xs := by
  rcases h with (h | ⟨o, h⟩) | h
  · exact .inl (.inl (e _ _ h))
  · exact .inl (.inr ⟨o, e _ _ h⟩)
  · exact .inr h
mutual
theorem Rp.mono (e : Same G G') : ∀ {v : V} {d : D}, Rp K G v d → Rp K G' v d
  | _, _, .non => .non
  | _, _, .bl b => .bl b
  | _, _, .int i => .int i
  | _, _, .str x => .str x
  | _, _, .lst h l => .lst (e.seq h) (RpL.mono e l)
  | _, _, .tup h l => .tup (seqT e h) (RpL.mono e l)
  | _, _, .dct h l => .dct (e _ _ h) (RpL.mono e l)
  | _, _, .dctL h l => .dctL (e _ _ h) (RpL.mono e l)
  | _, _, .dcT h l => .dcT (e _ _ h) (RpL.mono e l)
  | _, _, .obj hc h hn l => .obj hc (e _ _ h) hn (RpL.mono e l)
theorem RpL.mono (e : Same G G') : ∀ {v : List V} {d : List D}, RpL K G v d → RpL K G' v d
  | _, _, .nil => .nil
  | _, _, .cons h l => .cons (Rp.mono e h) (RpL.mono e l)
end
theorem RpL.len : ∀ {vs : List V} {ds : List D}, RpL K G vs ds → vs.length = ds.length
  | _, _, .nil => rfl
  | _, _, .cons _ l => by rw [List.length_cons, List.length_cons, l.len]
theorem RpL.get : ∀ {vs : List V} {ds : List D} {i : Nat} {d : D}, RpL K G vs ds → ds[i]? = some d → ∃ v, vs[i]? = some v ∧ Rp K G v d
  | _, _, _, _, .nil, e => by simp at e
  | _, _, 0, _, .cons r _, e => by simp at e; subst e; exact ⟨_, rfl, r⟩
  | _, _, i + 1, d, .cons _ t, e => by
    obtain ⟨u, h1, h2⟩ := RpL.get (i := i) (d := d) t (by simpa using e)
    exact ⟨u, by simpa using h1, h2⟩
theorem RpL.append : ∀ {vs ws : List V} {ds es : List D}, RpL K G vs ds → RpL K G ws es → RpL K G (vs ++ ws) (ds ++ es)
  | _, _, _, _, .nil, s => s
  | _, _, _, _, .cons r t, s => .cons r (RpL.append t s)
theorem RpL.take : ∀ {vs : List V} {ds : List D} (n : Nat), RpL K G vs ds → RpL K G (vs.take n) (ds.take n)
  | _, _, 0, _ => .nil
  | _, _, _ + 1, .nil => .nil
  | _, _, n + 1, .cons r t => .cons r (RpL.take n t)
theorem RpL.drop : ∀ {vs : List V} {ds : List D} (n : Nat), RpL K G vs ds → RpL K G (vs.drop n) (ds.drop n)
  | _, _, 0, r => r
  | _, _, _ + 1, .nil => .nil
  | _, _, n + 1, .cons _ t => RpL.drop n t
theorem RpL.set {v : V} {d : D} (r : Rp K G v d) : ∀ {vs : List V} {ds : List D} (i : Nat), RpL K G vs ds → RpL K G (vs.set i v) (ds.set i d)
  | _, _, _, .nil => .nil
  | _, _, 0, .cons _ t => .cons r t
  | _, _, i + 1, .cons q t => .cons q (RpL.set r i t)
theorem RpL.reverse : ∀ {vs : List V} {ds : List D}, RpL K G vs ds → RpL K G vs.reverse ds.reverse
  | _, _, .nil => .nil
  | _, _, .cons r t => by
    rw [List.reverse_cons, List.reverse_cons]
    exact (RpL.reverse t).append (.cons r .nil)
theorem RpL.dropLast {vs : List V} {ds : List D} (h : RpL K G vs ds) : RpL K G vs.dropLast ds.dropLast := by
  rw [List.dropLast_eq_take, List.dropLast_eq_take, h.len]
  exact h.take _
theorem RpL.ints : ∀ {vs : List V} {is : List Int}, RpL K G vs (is.map D.int) → vs = is.map V.int
  | _, [], .nil => rfl
  | _, _ :: _, .cons r t => by
    cases r
    rw [List.map_cons, ← RpL.ints t]
theorem RpL.bls : ∀ {vs : List V} {is : List Bool}, RpL K G vs (is.map D.bl) → vs = is.map V.bl
  | _, [], .nil => rfl
  | _, _ :: _, .cons r t => by
    cases r
    rw [List.map_cons, ← RpL.bls t]
theorem RpL.ofInts : ∀ (is : List Int), RpL K G (is.map V.int) (is.map D.int)
  | [] => .nil
  | i :: is => .cons (.int i) (RpL.ofInts is)
end
/-- what an own object holds -/
inductive RpO (K : PySem.W.Frag) (G : Hp) : HO → D → Prop
  | lst {xs : List V} {ds : List D} : RpL K G xs ds → RpO K G (.lst xs) (.lst ds)
  | dct {kvs : List (Key × V)} {ds : List D} : RpL K G (kvs.map (·.2)) ds → RpO K G (.dK kvs) (.dct false (kvs.map (·.1)) ds)
  | dcT {kvs : List (List Key × V)} {ds : List D} : RpL K G (kvs.map (·.2)) ds → RpO K G (.dT kvs) (.dcT (kvs.map (·.1)) ds)
section
variable {K : PySem.W.Frag} {G G' G1 G2 H H' H1 H2 : Hp}
theorem RpO.mono (e : Same G G') {o : HO} {d : D} (h : RpO K G o d) : RpO K G' o d := by
  cases h with
  | lst l => exact .lst (l.mono e)
  | dct l => exact .dct (l.mono e)
  | dcT l => exact .dcT (l.mono e)
theorem same_upd {a : Addr} {o : HO} (h : G a = none) : Same G (upd G a o) := fun b x e => by
  rw [upd_ne (ne_of_none e h)]
  exact e
theorem RpO.rp {a : Addr} {o : HO} {d : D} (h : RpO K G o d) (e : G a = some o) : Rp K G (.ref a) d := by
  cases h with
  | lst l => exact .lst (SqL.of e) l
  | dct l => exact .dct e l
  | dcT l => exact .dcT e l
theorem RpO.freeze {a : Addr} {o : HO} {d : D} (h : RpO K G o d) (hn : G a = none) : Rp K (upd G a o) (.ref a) d :=
  (h.mono (same_upd hn)).rp upd_same
/-- a value that may be read: shared, or an own object -/
def PB (K : PySem.W.Frag) (G H : Hp) (v : V) (d : D) : Prop := Rp K G v d ∨ ∃ a o, v = .ref a ∧ H a = some o ∧ G a = none ∧ RpO K G o d
/-- what may be own -/
def Owb : HO → Prop
  | .lst _ => True
  | .dK _ => True
  | .dT _ => True
  | .ins _ _ _ => True
  | .own _ => True
  | _ => False
theorem RpO.owb {o : HO} {d : D} (h : RpO K G o d) : Owb o := by
  cases h <;> trivial
/-- the shared heap within the heap: only lists and dicts are own -/
structure Ok2 (G H : Hp) : Prop where
  s : Same G H
  z : ∀ a o, H a = some o → G a = none → Owb o
structure Stp (G H G' H' : Hp) : Prop where
  h : Same H H'
  g : Same G G'
  o : Ok2 G' H'
  k : ∀ a o, H a = some o → G a = none → G' a = none
theorem Stp.s {G H G' H' : Hp} (t : Stp G H G' H') : Same G' H' := t.o.s
theorem Stp.refl (s : Ok2 G H) : Stp G H G H := ⟨Same.refl _, Same.refl _, s, fun _ _ _ n => n⟩
theorem Stp.trans (a : Stp G H G1 H1) (b : Stp G1 H1 G2 H2) : Stp G H G2 H2 :=
  ⟨a.h.trans b.h, a.g.trans b.g, b.o, fun x o e n => b.k x o (a.h _ _ e) (a.k x o e n)⟩
/-- a new object that is shared -/
theorem Stp.newS {a : Addr} {o : HO} (s : Ok2 G H) (hn : H a = none) : Stp G H (upd G a o) (upd H a o) := by
  have hg : G a = none := s.s.free hn
  refine ⟨same_upd hn, same_upd hg, ⟨fun b x e => ?_, fun b x e n => ?_⟩, fun b x e n => ?_⟩
  · by_cases hb : b = a
    · subst hb; rw [upd_same] at e ⊢; exact e
    · rw [upd_ne hb] at e ⊢; exact s.s _ _ e
  · by_cases hb : b = a
    · subst hb; rw [upd_same] at n; cases n
    · rw [upd_ne hb] at e n; exact s.z _ _ e n
  · rw [upd_ne (ne_of_none e hn)]; exact n
/-- a new object that is own -/
theorem Stp.newO {a : Addr} {o : HO} (s : Ok2 G H) (hn : H a = none) (w : Owb o) : Stp G H G (upd H a o) := by
  refine ⟨same_upd hn, Same.refl _, ⟨s.s.trans (same_upd hn), fun b x e n => ?_⟩, fun _ _ _ n => n⟩
  by_cases hb : b = a
  · subst hb; rw [upd_same] at e; cases e; exact w
  · rw [upd_ne hb] at e; exact s.z _ _ e n
theorem Stp.freeze {a : Addr} {o : HO} (t : Stp G H G1 H1) (hn : H a = none) (hg : G1 a = none) (ho : H1 a = some o) : Stp G H (upd G1 a o) H1 := by
  refine ⟨t.h, t.g.trans (same_upd hg), ⟨fun b x e => ?_, fun b x e n => ?_⟩, fun b x e n => ?_⟩
  · by_cases hb : b = a
    · subst hb; rw [upd_same] at e; cases e; exact ho
    · rw [upd_ne hb] at e; exact t.s _ _ e
  · by_cases hb : b = a
    · subst hb; rw [upd_same] at n; cases n
    · rw [upd_ne hb] at n; exact t.o.z _ _ e n
  · rw [upd_ne (ne_of_none e hn)]; exact t.k _ _ e n
theorem PB.step {v : V} {d : D} (t : Stp G H G1 H1) (h : PB K G H v d) : PB K G1 H1 v d := by
  rcases h with h | ⟨a, o, e, ho, hg, r⟩
  · exact .inl (h.mono t.g)
  · exact .inr ⟨a, o, e, t.h _ _ ho, t.k _ _ ho hg, r.mono t.g⟩
/-- what a value reads as, at the heap -/
theorem PB.rd {v : V} {d : D} (s : Same G H) (h : PB K G H v d) : Rp K H v d := by
  rcases h with h | ⟨a, o, rfl, ho, hg, r⟩
  · exact h.mono s
  · exact (r.mono s).rp ho
/-- the frame: own slots hold objects of their own, the others what is shared -/
structure FI (K : PySem.W.Frag) (own : Nat → Bool) (G : Hp) (ρ : List (Option D)) (σ : L2.St) (H : Hp) : Prop where
  ok : Ok2 G H
  len : ρ.length = σ.length
  sh : ∀ i d, own i = false → ρ[i]? = some (some d) → ∃ v, σ[i]? = some (some v) ∧ Rp K G v d
  ow : ∀ i d, own i = true → ρ[i]? = some (some d) → ∃ a o, σ[i]? = some (some (.ref a)) ∧ H a = some o ∧ G a = none ∧ RpO K G o d
  ap : ∀ i j a d e, own i = true → own j = true → ρ[i]? = some (some d) → ρ[j]? = some (some e) → σ[i]? = some (some (.ref a)) → σ[j]? = some (some (.ref a)) → i = j
variable {own : Nat → Bool} {ρ : List (Option D)} {σ : L2.St}
theorem FI.sub (F : FI K own G ρ σ H) : Same G H := F.ok.s
theorem FI.step (F : FI K own G ρ σ H) (t : Stp G H G1 H1) : FI K own G1 ρ σ H1 where
  ok := t.o
  len := F.len
  sh := fun i d h e => by
    obtain ⟨v, e1, r⟩ := F.sh i d h e
    exact ⟨v, e1, r.mono t.g⟩
  ow := fun i d h e => by
    obtain ⟨a, o, e1, ho, hg, r⟩ := F.ow i d h e
    exact ⟨a, o, e1, t.h _ _ ho, t.k _ _ ho hg, r.mono t.g⟩
  ap := F.ap
theorem FI.var (F : FI K own G ρ σ H) {i : Nat} {d : D} (e : ρ[i]? = some (some d)) : ∃ v, σ[i]? = some (some v) ∧ PB K G H v d := by
  cases h : own i with
  | true =>
    obtain ⟨a, o, e1, ho, hg, r⟩ := F.ow i d h e
    exact ⟨_, e1, .inr ⟨a, o, rfl, ho, hg, r⟩⟩
  | false =>
    obtain ⟨v, e1, r⟩ := F.sh i d h e
    exact ⟨v, e1, .inl r⟩
end
section
variable {X : Cx}
theorem pe_ex {e : Expr} {t : TE} (h : ∀ σ H Q, t σ H Q → ∃ u, PE X e u ∧ u σ H Q) : PE X e t :=
  ⟨fun pins s σ H Q I q => let ⟨_, p, q'⟩ := h σ H Q q; p.run pins s σ H Q I q'⟩
theorem pt_ex {e : Expr} {t : TT} (h : ∀ σ H Q, t σ H Q → ∃ u, PT X e u ∧ u σ H Q) : PT X e t :=
  ⟨fun pins s σ H Q I q => let ⟨_, p, q'⟩ := h σ H Q q; p.run pins s σ H Q I q'⟩
theorem pa_ex {e : List Expr} {t : TA} (h : ∀ σ H Q, t σ H Q → ∃ u, PA X e u ∧ u σ H Q) : PA X e t :=
  ⟨fun pos pins s σ H Q I q => let ⟨_, p, q'⟩ := h σ H Q q; p.run pos pins s σ H Q I q'⟩
theorem ps_ex {e : Stmt} {t : TS} (h : ∀ σ H D, t D σ H → ∃ u, PS X e u ∧ u D σ H) : PS X e t :=
  ⟨fun pins s σ H Q I q => let ⟨_, p, q'⟩ := h σ H Q q; p.run pins s σ H Q I q'⟩
theorem pss_ex {e : List Stmt} {t : TS} (h : ∀ σ H D, t D σ H → ∃ u, PSs X e u ∧ u D σ H) : PSs X e t :=
  ⟨fun pins s σ H Q I q => let ⟨_, p, q'⟩ := h σ H Q q; p.run pins s σ H Q I q'⟩
theorem pi_ex {tg e : Expr} {t : TI} (h : ∀ σ H R, t σ H R → ∃ u, PI X tg e u ∧ u σ H R) : PI X tg e t :=
  ⟨fun pins s σ H Q I q => let ⟨_, p, q'⟩ := h σ H Q q; p.run pins s σ H Q I q'⟩
end
end Den
namespace Den
open PySem PySem.Spec PyProof.Rows L2
section
variable {X : Cx}
def rSumT (K : PySem.W.Frag) : List V → Hp → VK → Prop := fun vs H Q => ∃ (a : Addr) (ns : List Int), vs = [V.ref a] ∧ SqT K H a (ns.map V.int) ∧ Q (.int ns.sum) H
theorem cr_sumT (hc : X.calm = true) : CallR X (.builtin "sum") (rSumT X.K) := by
  intro pins s σ H vs us Q I r h
  obtain ⟨a, ns, rfl, hs, q⟩ := h
  obtain ⟨its, rv, hl, hz⟩ := I.tuple hs
  rw [Vals.ref1 r]
  have hi := rv.ints
  obtain ⟨xs, e⟩ := hi.allInts.items
  have hn : numsOf (intItems xs).toList = ns := by rw [← e]; exact hi.numsOf
  rw [nums_intItems] at hn
  rw [e] at hl
  refine PySem.W.ktm_sumG (I.ok.hd hc) hl fun h' tk t' hk => ?_
  have I1 : Inv X pins σ H { s with heap := h', toks := tk } := I.kept hk
  refine ⟨.int ns.sum, H, I1, ⟨t', ?_⟩, q⟩
  rw [preSum_eq, List.take_of_length_le (by simp), hn]
def rSortedD (K : PySem.W.Frag) : List V → Hp → VK → Prop := fun vs H Q => ∃ (a : Addr) (bs : List (V × PyData)), vs = [V.ref a] ∧ SqL K H a (bs.map Prod.fst) ∧ DpAll K H (bs.map Prod.fst) (bs.map Prod.snd) ∧
  PySem.W.AllAlike (bs.map Prod.snd) ∧ PySem.W.Sortable (bs.map Prod.snd) ∧ (∀ b ∈ bs, b.2.depth ≤ 60) ∧ ∀ p, H p = none → Q (.ref p) (upd H p (.lst ((bs.mergeSort (PySem.W.dataLe false Prod.snd)).map Prod.fst)))
theorem vals_each {α : Type} {f : α → V} : ∀ {bs : List α} {its : List Value}, Vals (bs.map f) its → PySem.W.EachIs (fun u b => RelV (f b) u) its bs
  | [], _, h => by cases h; exact .nil
  | b :: bs, _, h => by
    cases h with
    | cons r t => exact .cons r (vals_each t)
theorem each_vals {α : Type} {f : α → V} : ∀ {bs : List α} {its : List Value}, PySem.W.EachIs (fun u b => RelV (f b) u) its bs → Vals (bs.map f) its
  | [], _, h => by cases h; exact .nil
  | b :: bs, _, h => by
    cases h with
    | cons r t => exact .cons r (each_vals t)
theorem dp_each {pins : List (Addr × Obj)} {s : Shared} {σ : L2.St} {H : Hp} (I : Inv X pins σ H s) : ∀ {bs : List (V × PyData)} {its : List Value}, Vals (bs.map Prod.fst) its → DpAll X.K H (bs.map Prod.fst) (bs.map Prod.snd) → PySem.W.EachIs (fun u b => ∃ as, Reads s.heap u b.2 as) its bs
  | [], _, h, _ => by cases h; exact .nil
  | b :: bs, _, h, d => by
    cases h with
    | cons r t =>
      cases d with
      | cons d dt => exact .cons (Dp.reads I b.2 b.1 _ d r) (dp_each I t dt)
theorem cr_sortedD (hu : X.A.units + 64 < cLine) : CallR X (.builtin "sorted") (rSortedD X.K) := by
  intro pins s σ H vs us Q I r h
  obtain ⟨a, bs, rfl, hs, hd, ha, hk, hdep, q⟩ := h
  obtain ⟨its, rv, hl, hz⟩ := I.list hs
  rw [Vals.ref1 r]
  have hlen : its.length = bs.length := by have := rv.length; rw [List.length_map] at this; exact this.symm
  refine PySem.W.sorted_data (bs := bs) (enc := Prod.snd) (R := fun u b => RelV b.1 u) (vs := its) hl.isList (vals_each rv) (dp_each I rv hd) ha hk (by rw [List.length_map] at hz; exact hz) (fun b hb => by have := hdep b hb; omega) fun out h1 h2 => ?_
  obtain ⟨ep, he'⟩ := PyProof.Rows.sortedAll_at s.heap its out.toArray
  have hv := each_vals (f := Prod.fst) h2
  refine ⟨.ref _, upd H (s.heap.objs.size + 1) (.lst ((bs.mergeSort (PySem.W.dataLe false Prod.snd)).map Prod.fst)), I.laid (t' := s.toks) (fun _ _ => PyProof.Rows.sortedAll_old) (Nat.le_succ _) ⟨?_, out, ep, hv, he'⟩, rfl, q _ (I.hok.fresh (Nat.le_succ _))⟩
  rw [List.length_map, List.length_mergeSort]
  rw [List.length_map] at hz
  exact hz
def rDm (K : PySem.W.Frag) (mx : Bool) : List V → List V → Hp → VK → Prop := fun vs zs H Q => ∃ (a : Addr) (ns : List Int), vs = [V.ref a] ∧ zs = [V.non] ∧ SqL K H a (ns.map V.int) ∧ Q (match ns with | [] => .non | m :: r => .int (if mx then r.foldl max m else r.foldl min m)) H
theorem alike_ints (ns : List Int) : PySem.W.AlikeAll (ns.map PyData.int) := by
  refine ⟨fun x hx y hy => ?_, fun x hx => ?_⟩
  · obtain ⟨i, _, rfl⟩ := List.mem_map.mp hx
    obtain ⟨j, _, rfl⟩ := List.mem_map.mp hy
    simp [PySem.W.alike]
  · obtain ⟨i, _, rfl⟩ := List.mem_map.mp hx
    exact fun h => nomatch h
theorem reads_ints {h : Heap} : ∀ {its : List Value} {ns : List Int}, IntsAre its ns → ∃ as, ReadsAll h its (ns.map PyData.int) as
  | _, _, .nil => ⟨[], .nil⟩
  | _, _, .cons n t r => by
    obtain ⟨as, k⟩ := reads_ints (h := h) r
    exact ⟨[] ++ as, .cons (.int n t) k⟩
theorem cr_dm (hc : X.calm = true) (hu : X.A.units + 64 < cLine) (mx : Bool) : CallRK X (.builtin (if mx then "max" else "min")) ["default"] (rDm X.K mx) := by
  intro pins s σ H vs zs us ws Q I r rz h
  obtain ⟨a, ns, rfl, rfl, hs, q⟩ := h
  obtain ⟨its, rv, hl, hz⟩ := I.list hs
  rw [Vals.ref1 r]
  obtain ⟨u, rfl, ru⟩ := vals1 rz
  obtain rfl : u = Value.none := ru
  have hi := rv.ints
  obtain ⟨as, rd⟩ := reads_ints (h := s.heap) hi
  have hd : PyData.depthAll (ns.map PyData.int) = 0 := PySem.W.depth_ints ns
  have I1 : ∀ {h' : Heap} {tk : Nat}, (∀ b o, s.heap.get? b = some o → h'.get? b = some o) → Inv X pins σ H { s with heap := h', toks := tk } := fun hk => I.kept hk
  have hIs : s.heap.IsList a its.toArray := hl.isList
  have key : ∀ (y : PyData) (ys : List PyData), ns.map PyData.int = y :: ys → ∃ m r, ns = m :: r ∧ y = .int m ∧ ys = r.map PyData.int := fun y ys e => by
    cases ns with
    | nil => cases e
    | cons m r =>
      rw [List.map_cons] at e
      injection e with e1 e2
      exact ⟨m, r, rfl, e1.symm, e2.symm⟩
  cases mx with
  | false =>
    refine PySem.W.min_list_default (vs := its.toArray) (I.ok.hd hc) hIs rd (alike_ints ns) (by rw [hd]; omega) (fun e h' tk hk => ?_) fun y ys i v h' tk bs e hv hr hk => ?_
    · have : ns = [] := List.map_eq_nil_iff.mp e
      subst this
      exact ⟨.non, H, I1 hk, rfl, q⟩
    · obtain ⟨m, r, rfl, rfl, rfl⟩ := key y ys e
      rw [PySem.W.minD_ints] at hr
      cases hr
      exact ⟨.int (r.foldl min m), H, I1 hk, ⟨_, rfl⟩, q⟩
  | true =>
    refine PySem.W.max_list_default (vs := its.toArray) (I.ok.hd hc) hIs rd (alike_ints ns) (by rw [hd]; omega) (fun e h' tk hk => ?_) fun y ys i v h' tk bs e hv hr hk => ?_
    · have : ns = [] := List.map_eq_nil_iff.mp e
      subst this
      exact ⟨.non, H, I1 hk, rfl, q⟩
    · obtain ⟨m, r, rfl, rfl, rfl⟩ := key y ys e
      rw [PySem.W.maxD_ints] at hr
      cases hr
      exact ⟨.int (r.foldl max m), H, I1 hk, ⟨_, rfl⟩, q⟩
theorem list_extW (l b : Addr) (its its2 : Array Value) (n n2 : Nat) (dd : Option Addr) (sl : Array (Option Value)) (h0 : ¬(!its.isEmpty && Builtin.List.listTooLong (its.size + its2.size)) = true) (h1 : its.size ≤ sizeLine) (h2 : its.size + its2.size ≤ sizeLine + 1) :
    Meets (Builtin.«list.extend» ⟨[.ref l, .ref b], []⟩) (fun _ R s => s.heap.get? l = some { cls := .type "list", dict := none, data := .seq its n, slots := #[] } ∧ s.heap.get? b = some { cls := .type "list", dict := dd, data := .seq its2 n2, slots := sl } ∧
      R (.ok (.ret Value.none)) { s with heap := s.heap.update l (Obj.mapSeq fun x => x ++ its2), toks := s.toks }) :=
  .of_wp fun prog w A R s h => by
    obtain ⟨hp, g, d, tk, os⟩ := s
    obtain ⟨hl, hb, h⟩ := h
    have f1 := AutoSeq1.idx_int
    have f2 := AutoSeq1.sub_tuple_tuple
    have f3 := AutoSeq1.sub_list_list
    have f4 := AutoSeq1.sub_tuple_list
    have f5 := AutoSeq1.sub_list_tuple
    have hz3 : (its ++ its2).size ≤ sizeLine + 1 := by rw [Array.size_append]; exact h2
    wp_walk using (wpAny_updateSeq hl rfl (hz := h1) (_hz' := hz3)), AutoSeq1.wpAny_loadPart' hl, AutoSeq1.wpAny_loadPart' hb
    exact ⟨_, rfl, h⟩
def rExtS (K : PySem.W.Frag) : V → List V → Hp → VK → Prop := fun x vs H Q => ∃ l b xs zs, x = .ref l ∧ vs = [.ref b] ∧ H l = some (.lst xs) ∧ SqL K H b zs ∧ xs.length + zs.length ≤ sizeLine ∧ Q .non (upd H l (.lst (xs ++ zs)))
theorem mt_extS : MtM X "list.extend" (rExtS X.K) := by
  intro pins s σ H x vs v us Q I rx rv h
  obtain ⟨l, b, xs, zs, rfl, rfl, hH, hB, hz, q⟩ := h
  cases rx
  obtain ⟨u, rfl, ru⟩ := rv.one
  cases ru
  obtain ⟨z, its, n, r, hl, e⟩ := I.lstM hH
  obtain ⟨its2, r2, pl2, z2⟩ := I.list hB
  obtain ⟨⟨cls2, dd2, data2, sl2⟩, ho2, hc2, n2, hd2⟩ := id pl2.isList
  simp only at hc2 hd2
  subst hc2 hd2
  have e1 := r.length
  have e2 := r2.length
  have hsz : its.toArray.size + its2.toArray.size ≤ sizeLine := by rw [List.size_toArray, List.size_toArray]; omega
  have hlong : ¬ (!its.toArray.isEmpty && Builtin.List.listTooLong (its.toArray.size + its2.toArray.size)) = true := by
    rw [notLongL hsz, Bool.and_false]
    exact Bool.false_ne_true
  refine call_meets PySem.F.slot_list_extend ⟨_, e, rfl⟩ PySem.F.entry_list_extend (PySem.F.args_list_extend_2 _ _)
    (list_extW l b its.toArray its2.toArray n n2 dd2 sl2 hlong (by rw [List.size_toArray]; omega) (by omega)) ⟨e, ho2, ?_⟩
  refine ⟨.non, _, I.lset (its' := its ++ its2) hH e (by simp) (r.append r2) ?_, rfl, q⟩
  rw [List.length_append]; omega
theorem pe_call0S {CX : CXT} {k : Nat} {f : Addr} {fd : FuncData} {ps : List Str} {sp : Sp} {x : Str} {E : L2.St → XK} {p pos : Pos} (F : FnOk X.prog X.w X.K X.mg X.base CX k f fd ps sp) (hr : Room k X.A) (hg : Gl X x) (hm : X.mg x = some (.ref f)) (hk : PySem.W.keepIn X.K (.ref f) = true) (hb : Binds X.K fd ps [])
    (hx : ∀ σ, PassesAt CX X σ (E σ)) (hdb : (x == ("__debug__" : Str)) = false := by decide) : PE X (.Call (.Name x p) [] [] pos) (tCallS sp E tNil) :=
  ⟨fun pins s σ H Q I h => wpAny_Call_Name_kw (ld_glob I hg hm (PySem.W.callWith_K0 I.kIn hk (run_fnS (us := []) F hr hb (hx σ) I .nil h)) hdb)⟩
end
end Den
namespace Den
open PySem PySem.Spec PyProof.Rows L2
open Sem (wp)
section
variable {prog : Program} {w : World} {A : Around} {s : Shared}
/-- what is known of such an x: its object stays, its iterator is o', the hint says something, and the walk yields P -/
structure Fresh (prog : Program) (w : World) (A : Around) (r : Addr) (o o' : Obj) (n : Nat) (P : Nat → Value → Prop) (St : Addr → Nat → Heap → Prop) : Prop where
  cls : ∃ T : String, o.cls = .type T ∧ T ≠ "list" ∧ T ≠ "tuple"
  walk : ∀ I, Walks prog w A I [I] [I] n P (St I)
  iter : ∀ (s1 : Shared) (Q E : Value → Shared → Prop), s1.heap.get? r = some o → Q (.ref s1.heap.objs.size) { s1 with heap := s1.heap.push o' } → wpAny (model prog w) A (pyIter (.ref r)) Q E s1
  start : ∀ h : Heap, St h.objs.size 0 (h.push o')
  hint : ∀ (s1 : Shared) (Q : Bool → Shared → Prop) (E : Value → Shared → Prop), s1.heap.get? r = some o → (∀ b tk, Q b { s1 with toks := tk }) → wpAny (model prog w) A (Builtin.List.listLengthHint (.ref r)) Q E s1
  size : n ≤ 2 ^ 24
/-- the list S holds acc; all else that s had still stands -/
def Grown (s : Shared) (S : Addr) (acc : Array Value) (h : Heap) : Prop := (∀ b o, b ≠ S → s.heap.get? b = some o → h.get? b = some o) ∧ ∃ c, h.get? S = some { cls := .type "list", dict := none, data := .seq acc c, slots := #[] }
theorem Fresh.fill {r S : Addr} {o o' : Obj} {n : Nat} {P : Nat → Value → Prop} {St : Addr → Nat → Heap → Prop} (F : Fresh prog w A.in1 r o o' n P St) (hr : s.heap.get? r = some o) (hS : ∃ c, s.heap.get? S = some { cls := .type "list", data := .seq #[] c })
    {R : Result → Shared → Prop} {res : Value} (hR : ∀ h' tk acc, Grown s S acc h' → ItemsOf P acc n → R (.ok (.ret res)) { s with heap := h', toks := tk }) :
    wpAny (model prog w) A.in1 (Builtin.List.listExtendWith (.ref S) (.ref r) res) (fun fin s' => match fin with | .done f => R (.ok f) s' | .again c' => c'.quiet = true ∧ codeAny (model prog w) A c' R s') (fun e s' => R (.error e) s') s := by
  obtain ⟨c0, hS⟩ := hS
  obtain ⟨T, hc, t1, t2⟩ := F.cls
  have lt := Heap.lt_size hS
  have nr : S ≠ r := fun e => by
    rw [e, hr] at hS
    cases hS
    exact t1 (by injection hc with hc; exact hc.symm)
  -- the loop, from any heap where the iterator stands at its start
  have go : ∀ (h : Heap) (tk : Nat), St s.heap.objs.size 0 h → Grown s S #[] h → codeAny (model prog w) A (.builtin "list.extend.loop" ⟨[.ref S, .ref s.heap.objs.size, res], []⟩) R { s with heap := h, toks := tk } := fun h tk st ⟨kp, c, e⟩ =>
    codeAny_extend_loopS (F.walk s.heap.objs.size).toS (by rw [sizeLine_eq]; have := F.size; omega) S (fun m => Nat.ne_of_lt lt (List.mem_singleton.mp m)) res n 0 _ #[] c rfl (Nat.zero_le _) st e (ItemsOf.nil _) fun s' acc c' mv e' its => by
      rw [Moved.eq_with mv]
      exact hR s'.heap s'.toks acc ⟨fun b x hb q => mv.heap b x (fun m => (List.mem_cons.mp m).elim hb fun m => Nat.ne_of_lt (Heap.lt_size q) (List.mem_singleton.mp m)) (kp b x hb q), c', e'⟩ its
  have base : Grown s S #[] (s.heap.push o') := ⟨fun b x _ q => Heap.get?_push_of_some _ q, c0, Heap.get?_push_of_some _ hS⟩
  -- a change of S leaves the iterator and all else
  have turned : ∀ (h : Heap) (acc acc' : Array Value) (f : Array Value → Array Value), St s.heap.objs.size 0 h → Grown s S acc h → f acc = acc' → St s.heap.objs.size 0 (h.update S (Obj.mapSeq f)) ∧ Grown s S acc' (h.update S (Obj.mapSeq f)) := fun h acc acc' f st ⟨kp, c, e⟩ hf => by
    refine ⟨(F.walk _).frame 0 h _ st fun b m x q => (Heap.get?_update_other _ _ fun z => Nat.ne_of_lt lt (z.trans (List.mem_singleton.mp m))).trans q, fun b x hb q => (Heap.get?_update_other _ _ (Ne.symm hb)).trans (kp b x hb q), ?_⟩
    have := Heap.get?_update_self (Obj.mapSeq f) e rfl
    subst hf
    exact ⟨_, this⟩
  unfold Builtin.List.listExtendWith
  refine wpAny_bind (wpAny_typeOf (T := T) ⟨_, hr, hc⟩ ?_)
  have q1 : Builtin.List.listSameRef (.ref S) (.ref r) = false := by simp [Builtin.List.listSameRef, nr]
  have q2 : (Value.type T == Value.type "list") = false := by simp [t1]
  have q3 : (Value.type T == Value.type "tuple") = false := by simp [t2]
  simp only [q1, q2, q3, Bool.or_false, Bool.false_eq_true, if_false]
  refine wpAny_bind (F.iter s _ _ hr (wpAny_bind (wpAny_holding (F.hint _ _ _ (Heap.get?_push_of_some _ hr) fun b tk => ?_))))
  have st0 := F.start s.heap
  refine wpAny_ite_split (fun _ => ?_) (fun _ => wpAny_pure ⟨plainId_quiet PySem.F.plain_extend_loop _, go _ _ st0 base⟩)
  -- room is made by one item that is taken off again
  obtain ⟨st1, g1⟩ := turned _ _ _ (·.push Value.none) st0 base rfl
  obtain ⟨st2, g2⟩ := turned _ _ #[] (·.pop) st1 g1 rfl
  obtain ⟨_, _, l0⟩ := base
  obtain ⟨_, _, l1⟩ := g1
  refine wpAny_bind (wpAny_rule (wpAny_bind ?_))
  show wpAny _ _ (updateSeq S (·.push .none) >>= fun _ => updateSeq S (·.pop)) _ _ _
  refine wpAny_bind (wpAny_updateSeq l0 rfl (wpAny_updateSeq (hz := by seq_fits) l1 rfl (wpAny_pure ⟨plainId_quiet PySem.F.plain_extend_loop _, go _ _ st2 g2⟩)))
theorem Fresh.init {r S : Addr} {o o' : Obj} {n : Nat} {P : Nat → Value → Prop} {St : Addr → Nat → Heap → Prop} (F : Fresh prog w A.in1 r o o' n P St) (hr : s.heap.get? r = some o) (hS : s.heap.get? S = some { cls := .type "list", data := .seq #[] })
    {R : Result → Shared → Prop} (hR : ∀ h' tk acc, Grown s S acc h' → ItemsOf P acc n → R (.ok (.ret .none)) { s with heap := h', toks := tk }) :
    wpAny (model prog w) A.in1 (Builtin.«list.__init__» ⟨[.ref S, .ref r], []⟩) (fun fin s' => match fin with | .done f => R (.ok f) s' | .again c' => c'.quiet = true ∧ codeAny (model prog w) A c' R s') (fun e s' => R (.error e) s') s := by
  have nr : r ≠ S := fun e => by
    obtain ⟨T, hc, t1, _⟩ := F.cls
    rw [e, hS] at hr
    cases hr
    exact t1 (by injection hc with hc; exact hc.symm)
  have up := Heap.get?_update_self (Obj.mapSeq fun _ => (#[] : Array Value)) hS rfl
  have ro : ∀ b x, b ≠ S → s.heap.get? b = some x → (s.heap.update S (Obj.mapSeq fun _ => (#[] : Array Value))).get? b = some x := fun b x hb e => (Heap.get?_update_other _ _ (Ne.symm hb)).trans e
  show wpAny _ _ (do let old ← Builtin.List.listItems (.ref S); Builtin.List.listUpdate (.ref S) (fun _ => #[]); letGo old.toList.reverse; Builtin.List.listExtendWith (.ref S) (.ref r) .none) _ _ s
  unfold Builtin.List.listItems
  refine wpAny_bind (wpAny_bind (wpAny_seqItems hS rfl (wpAny_pure ?_)))
  show wpAny _ _ (updateSeq S (fun _ => #[]) >>= fun _ => letGo (#[] : Array Value).toList.reverse >>= fun _ => Builtin.List.listExtendWith (.ref S) (.ref r) .none) _ _ s
  exact wpAny_bind (wpAny_updateSeq hS rfl (wpAny_bind (wpAny_letGo (F.fill (ro r o nr hr) ⟨_, up⟩ fun h' tk acc g its => hR h' tk acc ⟨fun b x hb e => g.1 b x hb (ro b x hb e), g.2⟩ its))))
theorem Fresh.list {r : Addr} {o o' : Obj} {n : Nat} {P : Nat → Value → Prop} {St : Addr → Nat → Heap → Prop} (F : Fresh prog w A.in1.in1 r o o' n P St) (hr : s.heap.get? r = some o) {Q E : Value → Shared → Prop}
    (hQ : ∀ h' tk acc, (∀ b x, s.heap.get? b = some x → h'.get? b = some x) → (∃ c, h'.get? s.heap.objs.size = some { cls := .type "list", dict := none, data := .seq acc c, slots := #[] }) → ItemsOf P acc n → Q (.ref s.heap.objs.size) { s with heap := h', toks := tk }) :
    wpAny (model prog w) A (call (.type "list") [.ref r]) Q E s := by
  have new := Heap.get?_push_size s.heap (o := { cls := .type "list", data := .seq #[] }) rfl
  refine callType_codes (Q₁ := fun v s1 => v = .ref s.heap.objs.size ∧ s1 = { s with heap := s.heap.push { cls := .type "list", data := .seq #[] } }) PySem.F.called_list (PySem.F.typeCall_list_1 _) PySem.F.entry_list_init (code_list_new _ ⟨rfl, rfl⟩) ?_
  rintro v s1 ⟨rfl, rfl⟩
  exact ⟨⟨_, new, rfl⟩, PySem.F.args_list_init_2 _ _, F.init (Heap.get?_push_of_some _ hr) new fun h' tk acc g its => ⟨rfl, hQ h' tk acc (fun b x e => g.1 b x (Nat.ne_of_lt (Heap.lt_size e)) (Heap.get?_push_of_some _ e)) g.2 its⟩⟩
/-- a range of any bounds, with not too many items -/
theorem fresh_range {a b : Int} {t u v : Tok} {r : Addr} (hh : A.handled = none) (hlen : (b - a).toNat ≤ 2 ^ 24) (big : Builtin.Range.small a b 1 = false) :
    Fresh prog w A r { cls := .type "range", dict := none, data := .fields #[.int a t, .int b u, .int 1 v], slots := #[] } { cls := .type "longrange_iterator", data := .fields #[rawInt a, rawInt (Builtin.Range.rangeSize a b 1), rawInt 1] } (b - a).toNat (fun i x => ∃ t, x = .int (a + i * 1) t) (fun I i h => IsLongIter h I (a + (i : Nat) * 1) (((b - a).toNat : Int) - (i : Nat)) 1) where
  cls := ⟨"range", rfl, by decide, by decide⟩
  walk := fun I => Walks.longrange hh I a 1 _
  iter := fun s1 Q E hr q => wpAny_pyIter_longrange hr big q
  start := fun h => by
    have e := rangeSize_nat a b
    show IsLongIter _ _ _ _ _
    rw [e]
    simpa using Heap.get?_push_size h rfl
  hint := fun s1 Q E hr q => wpAny_hint_range (n := (b - a).toNat) hr (rangeSize_nat a b) hlen (q _ _)
  size := hlen
end
end Den
namespace Den
open PySem PySem.Spec PyProof.Rows L2
inductive R (α : Type) where
  | ok (a : α)
  | exc (c : Nat)
  | bad
namespace R
def bind {α β : Type} (r : R α) (f : α → R β) : R β := match r with
  | ok a => f a
  | exc c => exc c
  | bad => bad
/-- an exception is not to be -/
def nox {α : Type} (r : R α) : R α := match r with
  | ok a => ok a
  | exc _ => bad
  | bad => bad
@[simp] theorem bind_ok {α β : Type} (a : α) (f : α → R β) : (ok a).bind f = f a := rfl
@[simp] theorem bind_exc {α β : Type} (c : Nat) (f : α → R β) : (exc c).bind f = exc c := rfl
@[simp] theorem bind_bad {α β : Type} (f : α → R β) : (bad : R α).bind f = bad := rfl
@[simp] theorem nox_ok {α : Type} (a : α) : (ok a).nox = ok a := rfl
def guard {α : Type} (b : Bool) (r : R α) : R α := if b then r else bad
@[simp] theorem guard_true {α : Type} (r : R α) : guard true r = r := rfl
end R
mutual
def D.py : D → PyData
  | .non => .none | .bl b => .bool b | .int i => .int i | .str s => .str s
  | .tup xs => .tuple (D.pyL xs) | .lst xs => .list (D.pyL xs)
  | .dct _ _ _ => .dict [] | .dcT _ _ => .dict [] | .obj _ _ => .dict []
def D.pyL : List D → List PyData
  | [] => []
  | x :: xs => x.py :: D.pyL xs
end
mutual
/-- no list and no dict within -/
def D.flat : D → Bool
  | .non => true | .bl _ => true | .int _ => true | .str _ => true
  | .tup xs => D.flatL xs | .lst _ => false | .dct _ _ _ => false | .dcT _ _ => false | .obj _ _ => false
def D.flatL : List D → Bool
  | [] => true
  | x :: xs => x.flat && D.flatL xs
end
abbrev Line : Nat := 16777216
inductive Bop where | add | sub | mul | fdiv | mod | pow
inductive Cop where | lt | le | gt | ge | eq | ne | in_ | notin | is_ | isnot
inductive Bi where | len | min2 | max2 | sum | min1 | max1 | all | any | list | tuple | sorted | int_ | str_
/-- methods of texts with one argument -/
inductive Tm where | split | join | part | starts | index
inductive Ty where | int | bool | str | tuple | list
def mulOk (i j : Int) : Bool := decide (i.natAbs.log2 + j.natAbs.log2 < 100000000)
def divOk (j : Int) : Bool := decide (j ≠ 0) && decide (j.natAbs.log2 < 9000)
def powOk (i j : Int) : Bool := decide (0 ≤ j) && decide (j ≤ 1000000) && decide (i.natAbs < 2 ^ 64)
/-- a text so many times -/
def repS (x : Str) (n : Int) : Str := ⟨(List.replicate n.toNat x.cps).foldl (· ++ ·) #[]⟩
/-- a text's signs -/
def signsD (z : Str) : List D := z.cps.toList.map fun c => .str ⟨#[c]⟩
def binD : Bop → D → D → R D
  | .add, .int i, .int j => .ok (.int (i + j))
  | .add, .str x, .str y => .guard (decide (x.length + y.length ≤ Line)) (.ok (.str (x ++ y)))
  | .add, .tup x, .tup y => .guard (decide (x.length + y.length ≤ Line)) (.ok (.tup (x ++ y)))
  | .add, .lst x, .lst y => .guard (decide (x.length + y.length ≤ Line)) (.ok (.lst (x ++ y)))
  | .sub, .int i, .int j => .ok (.int (i - j))
  | .mul, .int i, .int j => .guard (mulOk i j) (.ok (.int (i * j)))
  | .mul, .str x, .int j => .guard (decide (j.natAbs ≤ Line) && decide (x.length * j.toNat ≤ Line)) (.ok (.str (repS x j)))
  | .fdiv, .int i, .int j => .guard (divOk j) (.ok (.int (i.fdiv j)))
  | .mod, .int i, .int j => .guard (decide (j ≠ 0)) (.ok (.int (i.fmod j)))
  | .pow, .int i, .int j => .guard (powOk i j) (.ok (.int (i ^ j.toNat)))
  | _, _, _ => .bad
def eqOk (x y : D) : Bool := x.py.plain && y.py.plain && decide (min x.py.depth y.py.depth ≤ 60)
def eqD (x y : D) : R Bool := .guard (eqOk x y) (.ok (PyData.eqv x.py y.py))
def inOk (x : D) (ys : List D) : Bool := x.py.plain && PyData.plainAll (D.pyL ys) && decide (x.py.depth ≤ 60)
def kD : Key → D
  | .inl i => .int i
  | .inr s => .str s
def keyD : D → Option Key
  | .int i => some (.inl i)
  | .str s => some (.inr s)
  | _ => none
def keysD : List D → Option (List Key)
  | [] => some []
  | d :: r => (keyD d).bind fun k => (keysD r).map (k :: ·)
/-- what stands at a key -/
def lkD {κ : Type} [DecidableEq κ] : List κ → List D → κ → Option D
  | k :: ks, v :: vs, j => if k = j then some v else lkD ks vs j
  | _, _, _ => none
/-- the keys, the values behind a store -/
def puK {κ : Type} [DecidableEq κ] (ks : List κ) (k : κ) : List κ := if k ∈ ks then ks else ks ++ [k]
def puR {κ : Type} [DecidableEq κ] (k : κ) (z : D) : List κ → List D → List D
  | j :: ks, v :: vs => (if j = k then z else v) :: puR k z ks vs
  | _, _ => []
def puV {κ : Type} [DecidableEq κ] (ks : List κ) (vs : List D) (k : κ) (z : D) : List D := if k ∈ ks then puR k z ks vs else vs ++ [z]
def inD : D → D → R Bool
  | x, .lst ys => .guard (inOk x ys) (.ok ((D.pyL ys).any fun y => PyData.eqv y x.py))
  | x, .tup ys => .guard (inOk x ys) (.ok ((D.pyL ys).any fun y => PyData.eqv y x.py))
  | x, .dct _ ks vs => match keyD x with | some k => .ok (lkD ks vs k).isSome | none => .bad
  | .str c, .str z => .guard (decide (c.length = 1)) (.ok (decide (c.cps.getD 0 0 ∈ z.cps.toList)))
  | _, _ => .bad
/-- pairs of whole numbers in order -/
def ltP : D → D → R D
  | .tup [.int a, .int b], .tup [.int c, .int d] => .ok (.bl (decide (a < c ∨ (a = c ∧ b < d))))
  | _, _ => .bad
def cmpD : Cop → D → D → R D
  | .lt, .int i, .int j => .ok (.bl (decide (i < j)))
  | .lt, .str i, .str j => .ok (.bl (decide (i.cps.toList < j.cps.toList)))
  | .gt, .str i, .str j => .ok (.bl (decide (j.cps.toList < i.cps.toList)))
  | .lt, .tup x, y => ltP (.tup x) y
  | .le, .int i, .int j => .ok (.bl (decide (i ≤ j)))
  | .gt, .int i, .int j => .ok (.bl (decide (j < i)))
  | .ge, .int i, .int j => .ok (.bl (decide (j ≤ i)))
  | .eq, x, y => (eqD x y).bind fun b => .ok (.bl b)
  | .ne, x, y => (eqD x y).bind fun b => .ok (.bl (!b))
  | .in_, x, y => (inD x y).bind fun b => .ok (.bl b)
  | .notin, x, y => (inD x y).bind fun b => .ok (.bl (!b))
  | .is_, .bl i, .bl j => .ok (.bl (i == j))
  | .isnot, .bl i, .bl j => .ok (.bl (!(i == j)))
  | _, _, _ => .bad
def isNon : D → Bool
  | .non => true
  | _ => false
def ixD : D → D → R D
  | .lst xs, .int i => match atI xs i with | some d => .ok d | none => .bad
  | .tup xs, .int i => match atI xs i with | some d => .ok d | none => .bad
  | .str z, .int i => .guard (decide (z.length ≤ Line)) (match atI z.cps.toList i with | some c => .ok (.str ⟨#[c]⟩) | none => .bad)
  | .dct _ ks vs, y => match (keyD y).bind (lkD ks vs) with | some d => .ok d | none => .bad
  | _, _ => .bad
/-- d.get(k, z) -/
def dgD : D → D → D → R D
  | .dct _ ks vs, y, z => match keyD y with | some k => .ok ((lkD ks vs k).getD z) | none => .bad
  | _, _, _ => .bad
def asDct : D → R D
  | .dct f ks vs => .ok (.dct f ks vs)
  | _ => .bad
def dlD (x y : D) : R D := match keyD x with
  | some k => .ok (.dct true [k] [y])
  | none => .bad
def dlO (x y : D) : R D := match keyD x with
  | some k => .ok (.dct false [k] [y])
  | none => .bad
def pairL : List Key → List D → List D
  | k :: ks, v :: vs => .tup [kD k, v] :: pairL ks vs
  | _, _ => []
def itemsD : D → R (List D)
  | .dct true ks vs => .ok (pairL ks vs)
  | _ => .bad
def cutL {α : Type} (xs : List α) (lo hi : Option Int) : List α := (xs.drop (HT.sIx xs.length 0 lo)).take (HT.sIx xs.length xs.length hi - HT.sIx xs.length 0 lo)
def slD : D → Option Int → Option Int → R D
  | .lst xs, lo, hi => .ok (.lst (cutL xs lo hi))
  | .tup xs, lo, hi => .ok (.tup (cutL xs lo hi))
  | .str z, lo, hi => .guard (decide (z.length ≤ Line)) (.ok (.str (cutS z lo hi)))
  | _, _, _ => .bad
def asInt : D → R Int
  | .int i => .ok i
  | _ => .bad
def asStr : D → R Str
  | .str s => .ok s
  | _ => .bad
def asBool : D → R Bool
  | .bl b => .ok b
  | _ => .bad
def dInts : List D → Option (List Int)
  | [] => some []
  | .int i :: r => (dInts r).map (i :: ·)
  | _ :: _ => none
def dPrs : List D → Option (List (Int × Int))
  | [] => some []
  | .tup [.int a, .int b] :: r => (dPrs r).map ((a, b) :: ·)
  | _ :: _ => none
/-- the least pair -/
def minP (p : Int × Int) (r : List (Int × Int)) : Int × Int := r.foldl (fun a y => if y.1 < a.1 ∨ (y.1 = a.1 ∧ y.2 < a.2) then y else a) p
def dBls : List D → Option (List Bool)
  | [] => some []
  | .bl i :: r => (dBls r).map (i :: ·)
  | _ :: _ => none
def insI (i : Int) : List Int → List Int
  | [] => [i]
  | j :: r => if i ≤ j then i :: j :: r else j :: insI i r
def sortI : List Int → List Int
  | [] => []
  | i :: r => insI i (sortI r)
def insU (i : Int) : List Int → List Int
  | [] => [i]
  | j :: r => if i < j then i :: j :: r else if i = j then j :: r else j :: insU i r
/-- sorted, each but once -/
def sortU : List Int → List Int
  | [] => []
  | i :: r => insU i (sortU r)
def maxI : Int → List Int → Int
  | m, [] => m
  | m, i :: r => maxI (if i > m then i else m) r
def minI : Int → List Int → Int
  | m, [] => m
  | m, i :: r => minI (if i < m then i else m) r
def items : D → R (List D)
  | .lst xs => .ok xs
  | .tup xs => .ok xs
  | _ => .bad
/-- what may be walked: texts, too -/
def itemsS : D → R (List D)
  | .str z => .ok (signsD z)
  | x => items x
def itemsL : D → R (List D)
  | .lst xs => .ok xs
  | _ => .bad
def someR {α : Type} : Option α → R α
  | some a => .ok a
  | none => .bad
/-- what may be sorted by data: alike, plain, pairs and the like or none of them -/
def sortOk (xs : List D) : Bool := PyData.plainAll (D.pyL xs) && (xs.all fun a => xs.all fun b => PySem.W.alike a.py b.py) && ((xs.all fun a => match a with | .tup (_ :: _) => true | _ => false) || (xs.all fun a => match a with | .int _ => true | .str _ => true | _ => false)) && xs.all fun a => decide (a.py.depth ≤ 60)
def dmD (mx : Bool) : List Int → D
  | [] => .non
  | m :: r => .int (if mx then r.foldl max m else r.foldl min m)
def catD : D → D → R D
  | .lst x, .lst y => .guard (decide (x.length + y.length ≤ Line)) (.ok (.lst (x ++ y)))
  | _, _ => .bad
def mnP (xs : List D) : R D := (someR (dPrs xs)).bind fun ps => match ps with
  | [] => .bad
  | p :: r => .ok (.tup [.int (minP p r).1, .int (minP p r).2])
/-- the smallest of integers -/
def mnI (xs : List D) : R D := (someR (dInts xs)).bind fun is => match is with | [] => .bad | m :: r => .ok (.int (minI m r))
def mn1 : List D → R D
  | .tup z :: r => mnP (.tup z :: r)
  | xs => mnI xs
def dStrs : List D → Option (List Str)
  | [] => some []
  | .str i :: r => (dStrs r).map (i :: ·)
  | _ :: _ => none
def biD : Bi → List D → R D
  | .len, [.lst xs] => .ok (.int xs.length)
  | .len, [.tup xs] => .ok (.int xs.length)
  | .len, [.str z] => .guard (decide (z.length ≤ Line)) (.ok (.int z.length))
  | .min2, [.int i, .int j] => .ok (.int (if j < i then j else i))
  | .max2, [.int i, .int j] => .ok (.int (if j > i then j else i))
  | .sum, [.lst xs] => (someR (dInts xs)).bind fun is => .ok (.int is.sum)
  | .min1, [.lst xs] => mn1 xs
  | .max1, [.lst xs] => (someR (dInts xs)).bind fun is => match is with | [] => .bad | m :: r => .ok (.int (maxI m r))
  | .all, [.lst xs] => (someR (dBls xs)).bind fun bs => .ok (.bl (bs.all id))
  | .any, [.lst xs] => (someR (dBls xs)).bind fun bs => .ok (.bl (bs.any id))
  | .list, [.lst xs] => .ok (.lst xs)
  | .list, [.tup xs] => .ok (.lst xs)
  | .list, [.dcT ks _] => .ok (.lst (ks.map fun k => .tup (k.map kD)))
  | .tuple, [.lst xs] => .ok (.tup xs)
  | .tuple, [.tup xs] => .ok (.tup xs)
  | .sorted, [.lst xs] => match dInts xs with
    | some is => .ok (.lst ((sortI is).map .int))
    | none => .guard (sortOk xs) (.ok (.lst (xs.mergeSort (PySem.W.dataLe false D.py))))
  | .sum, [.tup xs] => (someR (dInts xs)).bind fun is => .ok (.int is.sum)
  | .int_, [.int i] => .ok (.int i)
  | .int_, [.bl b] => .ok (.int (if b then 1 else 0))
  | .int_, [.str s] => match PySem.intText? s with | some n => .guard (decide (s.length ≤ 640)) (.ok (.int n)) | none => .bad
  | .str_, [.int i] => .guard (decide (i.natAbs.log2 < 1920)) (.ok (.str (toString i)))
  | _, _ => .bad
def joinD (a : Str) (xs : List D) : R D := (someR (dStrs xs)).bind fun ys => .guard (decide ((ys.map (·.length)).sum + ys.length * a.length ≤ 16777216)) (.ok (.str (Txt.join a ys)))
def tmD : Tm → Str → D → R D
  | .split, a, .str b => .guard (decide (b.length ≠ 0) && decide (a.length + 2 ≤ Line)) (.ok (.lst ((Txt.split a b).map .str)))
  | .join, a, .lst xs => joinD a xs
  | .join, a, .tup xs => joinD a xs
  | .part, a, .str b => .guard (decide (b.length ≠ 0) && decide (a.length ≤ Line)) (.ok (.tup [.str (Txt.partition a b).1, .str (Txt.partition a b).2.1, .str (Txt.partition a b).2.2]))
  | .starts, a, .str b => .ok (.bl (Txt.startswith a b))
  | .index, a, .str b => match Builtin.Str.occurrences a b 0 a.length 1 with | i :: _ => .ok (.int (i : Nat)) | [] => .bad
  | _, _, _ => .bad
def isiD : Ty → D → R Bool
  | t, .non => .ok false
  | t, .bl _ => .ok (match t with | .int => true | .bool => true | _ => false)
  | t, .int _ => .ok (match t with | .int => true | _ => false)
  | t, .str _ => .ok (match t with | .str => true | _ => false)
  | t, .tup _ => .ok (match t with | .tuple => true | _ => false)
  | t, .lst _ => .ok (match t with | .list => true | _ => false)
  | _, .dct _ _ _ => .bad
  | _, .dcT _ _ => .bad
  | _, .obj _ _ => .bad
/-- a method of a class, a class's making, as numbers of what computes -/
def mid (c m : Nat) : Nat := 100000 + 100 * c + m
def iid (c : Nat) : Nat := 90000 + c
/-- which classes have a method -/
def mcl (m c : Nat) : Bool := if m ≤ 9 then decide (c ≤ 15) || (decide (m = 2) && decide (c = 17)) else if m = 10 then decide (7 ≤ c ∧ c ≤ 10) else if m = 11 then decide (11 ≤ c ∧ c ≤ 15) else decide (c = 17)
def objC : D → R Nat
  | .obj c _ => .ok c
  | _ => .bad
def fldD : D → Str → R D
  | .obj c fs, f => someR (((fldN c).zip fs).lookup f)
  | _, _ => .bad
def asDct' : D → R D
  | .dct _ ks vs => .ok (.dct false ks vs)
  | _ => .bad
/-- two lists of data that are equal -/
def pairEqD : List D → List D → Bool
  | [], [] => true
  | v :: vs, w :: ws => eqOk v w && PyData.eqv v.py w.py && pairEqD vs ws
  | _, _ => false
/-- two dicts that are alike: == tells true -/
def deqD : D → D → R D
  | .dct false ks vs, .dct false js ws => .guard (decide (ks = js) && decide ks.Nodup && pairEqD vs ws) (.ok (.bl true))
  | _, _ => .bad
def insT (i : Str) : List Str → List Str
  | [] => [i]
  | j :: r => if i.cps.toList < j.cps.toList then i :: j :: r else if i = j then j :: r else j :: insT i r
/-- texts in order, each but once -/
def sortT : List Str → List Str
  | [] => []
  | i :: r => insT i (sortT r)
/-- sorted(set(xs)): whole numbers or texts -/
def ssD (xs : List D) : R D := match dInts xs with
  | some is => .guard (decide (is.length < 4095)) (.ok (.lst ((sortU is).map .int)))
  | none => (someR (dStrs xs)).bind fun ss => .guard (decide (ss.length < 4095)) (.ok (.lst ((sortT ss).map .str)))
/-- len(set(xs)), texts -/
def lenSetD (xs : List D) : R D := (someR (dStrs xs)).bind fun ss => .guard (decide (ss.length < 4095)) (.ok (.int (sortT ss).length))
inductive Tg where
  | one (i : Nat)
  | many (is : List Nat)
  | nest (is : List Nat) (j : Nat)
mutual
inductive Ex where
  | var (i : Nat)
  | cst (d : D)
  | gint (x : Str) (i : Int)
  /-- a module's text, a module's tuple of texts -/
  | gstr (x : Str) (s : Str)
  | gwds (x : Str) (ws : List Str)
  | bin (o : Bop) (a b : Ex)
  | neg (a : Ex)
  | cmp (o : Cop) (a b : Ex)
  | isN (a : Ex) | notN (a : Ex)
  | chain (o o' : Cop) (a b c : Ex)
  | and_ (a b : Ex) | or_ (a b : Ex) | not_ (a : Ex)
  | ite (c a b : Ex)
  | tup (es : Exs) | lst (es : Exs)
  | ix (a b : Ex)
  | slF (a lo : Ex) | slT (a hi : Ex) | slB (a lo hi : Ex)
  | call (f : Nat) (es : Exs)
  | callB (f : Nat) (es : Exs)
  | bi (b : Bi) (es : Exs)
  | isi (a : Ex) (t : Ty)
  | comp (it : Itr) (tg : Tg) (own : List Nat) (e : Ex)
  | compIf (it : Itr) (tg : Tg) (own : List Nat) (c e : Ex)
  | sset (a : Ex)
  | lset (a : Ex)
  | lzip (es : Exs)
  | lrng (a b : Ex)
  | lrev (a : Ex)
  /-- min(a, default=None), max(a, default=None) -/
  | dmin (mx : Bool) (a : Ex)
  /-- a + b, two lists, as an own one -/
  | cat (a b : Ex)
  | call0 (f : Nat)
  /-- an empty dict, its keys tuples or not; a dict of one pair -/
  | dnew (t : Bool)
  | dlit (k v : Ex)
  /-- a list display so many times -/
  | repL (es : Exs) (n : Nat)
  /-- s.split(t) and the like -/
  | tm (m : Tm) (a b : Ex)
  | dget1 (i : Nat) (k : Ex)
  | dget2 (i : Nat) (k z : Ex)
  /-- a.f; a.m(..), own things lent (b) or not; a class called; isinstance of an own class; dict(a) -/
  | fld (a : Ex) (f : Str)
  | meth (b : Bool) (m : Nat) (a : Ex) (es : Exs)
  | make (c : Nat) (es : Exs)
  | isc (a : Ex) (c : Nat)
  | dcp (a : Ex)
  /-- a[:n] as an own list; a dict of one pair as an own one; a list of list displays at a place, as an own one; a class made of one own thing -/
  | slO (a hi : Ex)
  | dlitO (k v : Ex)
  | pickL (rs : Exs) (i : Ex)
  | makeB (c : Nat) (i : Nat)
  /-- two dicts, equal -/
  | deq (a b : Ex)
inductive Exs where
  | nil
  | cons (a : Ex) (r : Exs)
inductive Itr where
  | seq (a : Ex)
  | rng1 (a : Ex) | rng2 (a b : Ex) | rng3 (a b c : Ex)
  | enum (a : Ex)
  | zip (a b : Ex)
  | rev (a : Ex)
  | its (i : Nat)
end
abbrev Env := List (Option D)
def getV (ρ : Env) (i : Nat) : R D := match ρ[i]? with
  | some (some d) => .ok d
  | _ => .bad
def setV (ρ : Env) (i : Nat) (d : D) : Env := ρ.set i (some d)
def setVs : Env → List Nat → List D → R Env
  | ρ, [], [] => .ok ρ
  | ρ, i :: is, d :: ds => setVs (setV ρ i d) is ds
  | _, _, _ => .bad
def bindT (ρ : Env) : Tg → D → R Env
  | .one i, d => .ok (setV ρ i d)
  | .many is, .tup ds => .guard (decide (ds.length = is.length)) (setVs ρ is ds)
  | .many is, .lst ds => .guard (decide (ds.length = is.length)) (setVs ρ is ds)
  | .many _, _ => .bad
  | .nest is j, .tup [.tup ds, w] => .guard (decide (ds.length = is.length)) ((setVs ρ is ds).bind fun ρ' => .ok (setV ρ' j w))
  | .nest _ _, _ => .bad
def wipeE (ρ : Env) : List Nat → Env
  | [] => ρ
  | v :: vs => (wipeE ρ vs).set v none
def compL (f : D → R (Option D)) : List D → R (List D)
  | [] => .ok []
  | x :: r => (f x).bind fun o => (compL f r).bind fun rs => .ok (match o with | some d => d :: rs | none => rs)
def upto (lo : Int) : Nat → List D
  | 0 => []
  | n + 1 => .int lo :: upto (lo + 1) n
def upby (lo c : Int) : Nat → List D
  | 0 => []
  | n + 1 => .int lo :: upby (lo + c) c n
def enumL (k : Nat) : List D → List D
  | [] => []
  | x :: r => .tup [.int k, x] :: enumL (k + 1) r
def zipL : List D → List D → List D
  | x :: xs, y :: ys => .tup [x, y] :: zipL xs ys
  | _, _ => []
def zipD : D → D → R (List D)
  | .lst xs, .lst ys => .ok (zipL xs ys)
  | .tup xs, .tup ys => .ok (zipL xs ys)
  | _, _ => .bad
def zip4L : List D → List D → List D → List D → List D
  | x :: xs, y :: ys, z :: zs, w :: ws => .tup [x, y, z, w] :: zip4L xs ys zs ws
  | _, _, _, _ => []
def zip4D : List D → R D
  | [.lst xs, .lst ys, .lst zs, .lst ws] => .guard (decide (ys.length = xs.length) && decide (zs.length = xs.length) && decide (ws.length = xs.length)) (.ok (.lst (zip4L xs ys zs ws)))
  | _ => .bad
def small62 (i : Int) : Bool := decide (-(2 ^ 62) ≤ i) && decide (i < 2 ^ 62)
section
variable (fn : Nat → List D → R D)
mutual
def ev : Ex → Env → R D
  | .var i, ρ => getV ρ i
  | .cst d, _ => .ok d
  | .gint _ i, _ => .ok (.int i)
  | .gstr _ s, _ => .ok (.str s)
  | .gwds _ ws, _ => .ok (.tup (ws.map .str))
  | .bin o a b, ρ => (ev a ρ).bind fun x => (ev b ρ).bind fun y => binD o x y
  | .neg a, ρ => (ev a ρ).bind fun x => (asInt x).bind fun i => .ok (.int (-i))
  | .cmp o a b, ρ => (ev a ρ).bind fun x => (ev b ρ).bind fun y => cmpD o x y
  | .isN a, ρ => (ev a ρ).bind fun x => .ok (.bl (isNon x))
  | .notN a, ρ => (ev a ρ).bind fun x => .ok (.bl (!isNon x))
  | .chain o o' a b c, ρ => (ev a ρ).bind fun x => (ev b ρ).bind fun y => (cmpD o x y).bind fun t => (asBool t).bind fun k =>
      if k then (ev c ρ).bind fun z => cmpD o' y z else .ok (.bl false)
  | .and_ a b, ρ => (ev a ρ).bind fun x => (asBool x).bind fun k => if k then (ev b ρ).bind fun y => (asBool y).bind fun k => .ok (.bl k) else .ok (.bl false)
  | .or_ a b, ρ => (ev a ρ).bind fun x => (asBool x).bind fun k => if k then .ok (.bl true) else (ev b ρ).bind fun y => (asBool y).bind fun k => .ok (.bl k)
  | .not_ a, ρ => (ev a ρ).bind fun x => (asBool x).bind fun k => .ok (.bl (!k))
  | .ite c a b, ρ => (ev c ρ).bind fun x => (asBool x).bind fun k => if k then ev a ρ else ev b ρ
  | .tup es, ρ => (evs es ρ).bind fun ds => .ok (.tup ds)
  | .lst es, ρ => (evs es ρ).bind fun ds => .ok (.lst ds)
  | .ix a b, ρ => (ev a ρ).bind fun x => (ev b ρ).bind fun y => ixD x y
  | .slF a lo, ρ => (ev a ρ).bind fun x => (ev lo ρ).bind fun y => (asInt y).bind fun i => slD x (some i) none
  | .slT a hi, ρ => (ev a ρ).bind fun x => (ev hi ρ).bind fun y => (asInt y).bind fun i => slD x none (some i)
  | .slB a lo hi, ρ => (ev a ρ).bind fun x => (ev lo ρ).bind fun y => (asInt y).bind fun i => (ev hi ρ).bind fun z => (asInt z).bind fun j => slD x (some i) (some j)
  | .call f es, ρ => (evs es ρ).bind fun ds => fn f ds
  | .callB f es, ρ => (evs es ρ).bind fun ds => (fn f ds).bind fun z => .guard z.flat (.ok z)
  | .bi b es, ρ => (evs es ρ).bind fun ds => biD b ds
  | .isi a t, ρ => (ev a ρ).bind fun x => (isiD t x).bind fun b => .ok (.bl b)
  | .comp it tg own e, ρ => (evi it ρ).bind fun xs => .guard (decide (xs.length ≤ Line)) ((compL (fun x => (bindT (wipeE ρ own) tg x).bind fun ρ' => (ev e ρ').bind fun d => .ok (some d)) xs).bind fun ds => .ok (.lst ds))
  | .compIf it tg own c e, ρ => (evi it ρ).bind fun xs => .guard (decide (xs.length ≤ Line)) ((compL (fun x => (bindT (wipeE ρ own) tg x).bind fun ρ' => (ev c ρ').bind fun t => (asBool t).bind fun k =>
      if k then (ev e ρ').bind fun d => .ok (some d) else .ok none) xs).nox.bind fun ds => .ok (.lst ds))
  | .sset a, ρ => (ev a ρ).bind fun x => (itemsL x).bind ssD
  | .lset a, ρ => (ev a ρ).bind fun x => (itemsL x).bind lenSetD
  | .lzip es, ρ => (evs es ρ).bind fun ds => zip4D ds
  | .lrng a b, ρ => (ev a ρ).bind fun x => (ev b ρ).bind fun y => (asInt x).bind fun i => (asInt y).bind fun j => .guard (decide ((j - i).toNat ≤ Line)) (.ok (.lst (upto i (j - i).toNat)))
  | .lrev a, ρ => (ev a ρ).bind fun x => (itemsL x).bind fun xs => .ok (.lst xs.reverse)
  | .dmin mx a, ρ => (ev a ρ).bind fun x => (itemsL x).bind fun xs => (someR (dInts xs)).bind fun is => .ok (dmD mx is)
  | .cat a b, ρ => (ev a ρ).bind fun x => (ev b ρ).bind fun y => catD x y
  | .call0 f, _ => fn f []
  | .dnew t, _ => .ok (if t then .dcT [] [] else .dct false [] [])
  | .dlit k v, ρ => (ev k ρ).bind fun x => (ev v ρ).bind fun y => dlD x y
  | .repL es n, ρ => (evs es ρ).bind fun ds => .guard (decide (n ≤ 1000 ∧ ds.length * n ≤ Line)) (.ok (.lst (List.replicate n ds).flatten))
  | .tm m a b, ρ => (ev a ρ).bind fun x => (asStr x).bind fun s => (ev b ρ).bind fun y => tmD m s y
  | .dget1 i k, ρ => (getV ρ i).bind fun x => (asDct x).bind fun x => (ev k ρ).bind fun y => dgD x y .non
  | .dget2 i k z, ρ => (getV ρ i).bind fun x => (asDct x).bind fun x => (ev k ρ).bind fun y => (ev z ρ).bind fun w => dgD x y w
  | .fld a f, ρ => (ev a ρ).bind fun x => fldD x f
  | .meth b m a es, ρ => (ev a ρ).bind fun x => (objC x).bind fun c => .guard (mcl m c) <| (evs es ρ).bind fun ys => if b then (fn (mid c m) (x :: ys)).bind fun z => .guard z.flat (.ok z) else fn (mid c m) (x :: ys)
  | .make c es, ρ => (evs es ρ).bind fun ys => fn (iid c) ys
  | .isc a k, ρ => (ev a ρ).bind fun x => (objC x).bind fun c => .ok (.bl (subC c k))
  | .dcp a, ρ => (ev a ρ).bind fun x => asDct' x
  | .slO a hi, ρ => (ev a ρ).bind fun x => (ev hi ρ).bind fun y => (asInt y).bind fun i => (itemsL x).bind fun xs => .ok (.lst (cutL xs none (some i)))
  | .dlitO k v, ρ => (ev k ρ).bind fun x => (ev v ρ).bind fun y => dlO x y
  | .pickL rs i, ρ => (evs rs ρ).bind fun ds => (ev i ρ).bind fun y => ixD (.lst ds) y
  | .makeB c i, ρ => (getV ρ i).bind fun d => fn (iid c) [d]
  | .deq a b, ρ => (ev a ρ).bind fun x => (ev b ρ).bind fun y => deqD x y
def evs : Exs → Env → R (List D)
  | .nil, _ => .ok []
  | .cons a r, ρ => (ev a ρ).bind fun x => (evs r ρ).bind fun xs => .ok (x :: xs)
def evi : Itr → Env → R (List D)
  | .seq a, ρ => (ev a ρ).bind itemsS
  | .rng1 a, ρ => (ev a ρ).bind fun x => (asInt x).bind fun j => .ok (upto 0 j.toNat)
  | .rng2 a b, ρ => (ev a ρ).bind fun x => (ev b ρ).bind fun y => (asInt x).bind fun i => (asInt y).bind fun j => .ok (upto i (j - i).toNat)
  | .rng3 a b c, ρ => (ev a ρ).bind fun x => (ev b ρ).bind fun y => (ev c ρ).bind fun z => (asInt x).bind fun i => (asInt y).bind fun j => (asInt z).bind fun k =>
      .guard (decide (k ≠ 0) && decide (k.natAbs < 1073741824) && Builtin.Range.small i j k && decide (0 ≤ Builtin.Range.rangeSize i j k)) (.ok (upby i k (Builtin.Range.rangeSize i j k).toNat))
  | .enum a, ρ => (ev a ρ).bind fun x => (items x).bind fun xs => .ok (enumL 0 xs)
  | .zip a b, ρ => (ev a ρ).bind fun x => (ev b ρ).bind fun y => zipD x y
  | .rev a, ρ => (ev a ρ).bind fun x => (items x).bind fun xs => .ok xs.reverse
  | .its i, ρ => (getV ρ i).bind itemsD
end
end
end Den
namespace Den
open PySem PySem.Spec PyProof.Rows L2
section
variable {X : Cx}
def rLtD (K : PySem.W.Frag) : R2 := fun x y H Q => ∃ d e, Dp K H x d ∧ Dp K H y e ∧ PySem.W.alike d e = true ∧ d ≠ .none ∧ min d.depth e.depth ≤ 60 ∧ Q (.bl (PySem.W.dataLt d e)) H
theorem op_ltD (hu : X.A.units + 64 < cLine) : OpR X (compareOp .Lt) (rLtD X.K) := by
  intro pins s σ H x y v u Q I rx ry h
  obtain ⟨d, e, hd, he, al, ne, hm, q⟩ := h
  obtain ⟨as, r1⟩ := Dp.reads I d x v hd rx
  obtain ⟨bs, r2⟩ := Dp.reads I e y u he ry
  exact PySem.W.lt_data r1 r2 al ne (by omega) ⟨.bl _, H, I, rfl, q⟩
def rMinD (K : PySem.W.Frag) : List V → Hp → VK → Prop := fun vs H Q => ∃ (a : Addr) (b : V × PyData) (bs : List (V × PyData)), vs = [V.ref a] ∧ SqL K H a ((b :: bs).map Prod.fst) ∧ DpAll K H ((b :: bs).map Prod.fst) ((b :: bs).map Prod.snd) ∧
  PySem.W.AlikeAll ((b :: bs).map Prod.snd) ∧ PyData.depthAll ((b :: bs).map Prod.snd) ≤ 60 ∧ ∀ c ∈ b :: bs, c.2 = PySem.W.minD b.2 (bs.map Prod.snd) → Q c.1 H
theorem vals_nth : ∀ {xs : List V} {us : List Value} {i : Nat} {u : Value}, Vals xs us → us[i]? = some u → ∃ x, xs[i]? = some x ∧ RelV x u
  | _, _, i, u, .nil, h => by simp at h
  | _, _, 0, u, .cons r _, h => by cases h; exact ⟨_, rfl, r⟩
  | _, _, i + 1, u, .cons _ t, h => vals_nth (i := i) t h
theorem cr_minD (hc : X.calm = true) (hu : X.A.units + 64 < cLine) : CallR X (.builtin "min") (rMinD X.K) := by
  intro pins s σ H vs us Q I r h
  obtain ⟨a, b, bs, rfl, hs, hd, ha, hdep, q⟩ := h
  obtain ⟨its, rv, hl, hz⟩ := I.list hs
  rw [Vals.ref1 r]
  obtain ⟨as, hr⟩ := Dp.readsAll I _ _ _ hd rv
  refine PySem.W.min_list_data (vs := its.toArray) (I.ok.hd hc) hl.isList (by simpa using hr) ha (by show X.A.units + 1 + _ < _; have := hdep; simp only [List.map_cons] at this ⊢; omega) fun i v h' tk cs hi hR hk => ?_
  have hi : its[i]? = some v := by simpa using hi
  obtain ⟨x, hx, rx⟩ := vals_nth rv hi
  rw [List.getElem?_map] at hx
  obtain ⟨c, hc2, e⟩ : ∃ c, (b :: bs)[i]? = some c ∧ c.1 = x := by
    cases hcc : (b :: bs)[i]? with
    | none => rw [hcc] at hx; cases hx
    | some c => rw [hcc] at hx; exact ⟨c, rfl, Option.some.inj hx⟩
  have cm := List.mem_of_getElem? hc2
  obtain ⟨ds, rd, _⟩ := PySem.W.readsAll_at hr i v hi
  have eg : ((b :: bs).map Prod.snd).getD i .none = c.2 := by
    rw [List.getD_eq_getElem?_getD, List.getElem?_map, hc2]; rfl
  rw [eg] at rd
  have ec : c.2 = PySem.W.minD b.2 (bs.map Prod.snd) := (Reads.unique (PySem.W.reads_keeps hk rd) _ _ hR).1
  rw [← e] at rx
  exact ⟨c.1, H, I.kept hk, rx, q c cm ec⟩
end
end Den
namespace Den
open PySem PySem.Spec PyProof.Rows L2
section
variable {X : Cx} {K : PySem.W.Frag} {H G : Hp}
theorem lst_inv {v : V} {ds : List D} (h : Rp K H v (.lst ds)) : ∃ a xs, v = .ref a ∧ SqL K H a xs ∧ RpL K H xs ds := by
  cases h with
  | lst a b => exact ⟨_, _, rfl, a, b⟩
theorem tup_inv {v : V} {ds : List D} (h : Rp K H v (.tup ds)) : ∃ a xs, v = .ref a ∧ SqT K H a xs ∧ RpL K H xs ds := by
  cases h with
  | tup a b => exact ⟨_, _, rfl, a, b⟩
theorem int_inv {v : V} {i : Int} (h : Rp K H v (.int i)) : v = .int i := by cases h; rfl
theorem bl_inv {v : V} {b : Bool} (h : Rp K H v (.bl b)) : v = .bl b := by cases h; rfl
theorem str_inv {v : V} {b : Str} (h : Rp K H v (.str b)) : v = .str b := by cases h; rfl
theorem isNon_iff {v : V} {d : D} (h : Rp K H v d) : decide (v = .non) = isNon d := by
  cases h <;> simp [isNon]
mutual
theorem dp_of : ∀ {d : D} {v : V}, Rp K H v d → d.py.plain = true → Dp K H v d.py
  | _, _, .non, _ => .non
  | _, _, .bl b, _ => .bl b
  | _, _, .int i, _ => .int i
  | _, _, .str x, _ => .str x
  | .lst ds, _, .lst h l, p => .lst h (dpL_of l (by simpa [D.py, PyData.plain] using p))
  | .tup ds, _, .tup h l, p => .tup h (dpL_of l (by simpa [D.py, PyData.plain] using p))
  | _, _, .dct h l, p => by simp [D.py, PyData.plain] at p
  | _, _, .dctL h l, p => by simp [D.py, PyData.plain] at p
  | _, _, .dcT h l, p => by simp [D.py, PyData.plain] at p
  | _, _, .obj _ _ _ l, p => by simp [D.py, PyData.plain] at p
theorem dpL_of : ∀ {ds : List D} {vs : List V}, RpL K H vs ds → PyData.plainAll (D.pyL ds) = true → DpAll K H vs (D.pyL ds)
  | _, _, .nil, _ => .nil
  | d :: ds, _, .cons h l, p => by
    rw [D.pyL, PyData.plainAll, Bool.and_eq_true] at p
    exact .cons (dp_of h p.1) (dpL_of l p.2)
end
/-- x == y, of data -/
def rEqP (K : PySem.W.Frag) : R2 := fun x y H Q => ∃ d e, Dp K H x d ∧ Dp K H y e ∧ d.plain = true ∧ e.plain = true ∧ min d.depth e.depth ≤ 60 ∧ Q (.bl (PyData.eqv d e)) H
def rNeP (K : PySem.W.Frag) : R2 := fun x y H Q => ∃ d e, Dp K H x d ∧ Dp K H y e ∧ d.plain = true ∧ e.plain = true ∧ min d.depth e.depth ≤ 60 ∧ Q (.bl (!PyData.eqv d e)) H
theorem op_eqP (hu : X.A.units + 64 < cLine) : OpR X (compareOp .Eq) (rEqP X.K) := by
  intro pins s σ H x y v u Q I rx ry h
  obtain ⟨d, e, hd, he, sd, se, hm, q⟩ := h
  obtain ⟨as, r1⟩ := Dp.reads I d x v hd rx
  obtain ⟨bs, r2⟩ := Dp.reads I e y u he ry
  exact SeqAt.eq_plain r1 r2 sd se (by omega) ⟨.bl _, H, I, rfl, q⟩
theorem op_neP (hu : X.A.units + 64 < cLine) : OpR X (compareOp .NotEq) (rNeP X.K) := by
  intro pins s σ H x y v u Q I rx ry h
  obtain ⟨d, e, hd, he, sd, se, hm, q⟩ := h
  obtain ⟨as, r1⟩ := Dp.reads I d x v hd rx
  obtain ⟨bs, r2⟩ := Dp.reads I e y u he ry
  exact SeqAt.ne_plain r1 r2 sd se (by omega) ⟨.bl _, H, I, rfl, q⟩
def rInP (K : PySem.W.Frag) (neg : Bool) : R2 := fun x y H Q => ∃ d es, Dp K H x d ∧ (Dp K H y (.list es) ∨ Dp K H y (.tuple es)) ∧ d.plain = true ∧ PyData.plainAll es = true ∧ d.depth ≤ 60 ∧
  Q (.bl (if neg then !(es.any fun z => PyData.eqv z d) else es.any fun z => PyData.eqv z d)) H
theorem op_inP (hu : X.A.units + 64 < cLine) : OpR X (compareOp .In) (rInP X.K false) := by
  intro pins s σ H x y v u Q I rx ry h
  obtain ⟨d, es, hd, he, sd, se, hm, q⟩ := h
  obtain ⟨as, r1⟩ := Dp.reads I d x v hd rx
  rcases he with he | he
  · obtain ⟨bs, r2⟩ := Dp.reads I _ y u he ry
    exact SeqAt.in_list_data r2 r1 se sd (by omega) ⟨.bl _, H, I, rfl, q⟩
  · obtain ⟨bs, r2⟩ := Dp.reads I _ y u he ry
    exact SeqAt.in_tuple_data r2 r1 se sd (by omega) ⟨.bl _, H, I, rfl, q⟩
theorem op_notinP (hu : X.A.units + 64 < cLine) : OpR X (compareOp .NotIn) (rInP X.K true) := by
  intro pins s σ H x y v u Q I rx ry h
  obtain ⟨d, es, hd, he, sd, se, hm, q⟩ := h
  obtain ⟨as, r1⟩ := Dp.reads I d x v hd rx
  rcases he with he | he
  · obtain ⟨bs, r2⟩ := Dp.reads I _ y u he ry
    exact SeqAt.notIn_list_data r2 r1 se sd (by omega) ⟨.bl _, H, I, rfl, q⟩
  · obtain ⟨bs, r2⟩ := Dp.reads I _ y u he ry
    exact SeqAt.notIn_tuple_data r2 r1 se sd (by omega) ⟨.bl _, H, I, rfl, q⟩
/-- two lists, a new one -/
def rCatL (K : PySem.W.Frag) : R2 := fun x y H Q => ∃ l b xs zs, x = .ref l ∧ y = .ref b ∧ SqL K H l xs ∧ SqL K H b zs ∧ xs.length + zs.length ≤ sizeLine ∧ ∀ p, H p = none → Q (.ref p) (upd H p (.lst (xs ++ zs)))
theorem op_catL : OpR X (binaryOp .Add) (rCatL X.K) := by
  intro pins s σ H x y v u Q I rx ry h
  obtain ⟨l, b, xs, zs, rfl, rfl, hH, hB, hz, q⟩ := h
  cases rx
  cases ry
  obtain ⟨its, r, pl, z1⟩ := I.list hH
  obtain ⟨its2, r2, pl2, z2⟩ := I.list hB
  have e1 := r.length
  have e2 := r2.length
  obtain ⟨⟨cls, dd, data, sl⟩, ho, hc, n, hd⟩ := id pl.isList
  obtain ⟨⟨cls2, dd2, data2, sl2⟩, ho2, hc2, n2, hd2⟩ := id pl2.isList
  simp only at hc hd hc2 hd2
  subst hc hd hc2 hd2
  have e : its.toArray ++ its2.toArray = (its ++ its2).toArray := by simp
  refine concat_meets ⟨_, ho, rfl⟩ ⟨_, ho2, rfl⟩ noFill_list_add seq_list_add PySem.F.slot_list_add PySem.F.entry_list_add (PySem.F.args_list_add_2 _ _) (list_addW l b its.toArray its2.toArray n n2 dd dd2 sl sl2 (by simp only [List.size_toArray]; omega)) ⟨ho, ho2, ?_⟩
  rw [e]
  exact ⟨.ref _, _, I.lnew (t' := s.toks) (r.append r2) (by rw [List.length_append]; omega), rfl, q _ I.fresh⟩
/-- products, quotients of any size that the model serves -/
theorem mulOk_ok {i j : Int} (h : mulOk i j = true) : IntMulOk i j := by
  have b : ∀ x : Int, Builtin.Int.intBits x ≤ x.natAbs.log2 + 1 := fun x => by
    unfold Builtin.Int.intBits
    split <;> omega
  have h1 := b i
  have h2 := b j
  have h3 : i.natAbs.log2 + j.natAbs.log2 < 100000000 := of_decide_eq_true h
  have e : bitsLine = 134217728 := by decide
  unfold IntMulOk
  intro z
  rw [Bool.and_eq_true] at z
  have z2 := z.2
  unfold Builtin.Int.intTooBig at z2
  have z3 := of_decide_eq_true z2
  rw [e] at z3
  omega
theorem op_mulD : OpR X (binaryOp .Mult) (rI (fun i j => mulOk i j = true) fun i j => .int (i * j)) := opI fun _ _ _ _ _ _ _ hc q => mul_int q (mulOk_ok hc)
theorem fold_one (xs : Array Nat) : (List.replicate 1 xs).foldl (· ++ ·) #[] = xs := by simp [List.replicate]
theorem fold_empty (n : Nat) : (List.replicate n (#[] : Array Nat)).foldl (· ++ ·) #[] = #[] := by
  induction n with
  | zero => rfl
  | succ n ih => rw [List.replicate_succ, List.foldl_cons]; simpa using ih
theorem fold_size (xs : Array Nat) : ∀ (n : Nat) (a : Array Nat), ((List.replicate n xs).foldl (· ++ ·) a).size = a.size + n * xs.size
  | 0, a => by simp
  | n + 1, a => by
    rw [List.replicate_succ, List.foldl_cons, fold_size xs n, Array.size_append, Nat.add_mul]; omega
theorem repS_len (z : Str) (j : Int) : (repS z j).length = j.toNat * z.length := by
  show ((List.replicate j.toNat z.cps).foldl (· ++ ·) #[]).size = _
  rw [fold_size]; simp [Str.length]
/-- a text so many times -/
theorem op_mulS : OpR X (binaryOp .Mult) (fun x y H Q => ∃ z j, x = .str z ∧ y = .int j ∧ j.natAbs ≤ Line ∧ z.length * j.toNat ≤ Line ∧ Q (.str (repS z j)) H) := by
  intro pins s σ H x y v u Q I rx ry h
  obtain ⟨z, j, rfl, rfl, hj, hz, q⟩ := h
  obtain ⟨t, rfl⟩ := rx
  obtain ⟨t', rfl⟩ := ry
  have hj2 : j.natAbs ≤ 16777216 := hj
  have hz2 : z.length * j.toNat ≤ 16777216 := hz
  have e1 : decide (j < -(2 ^ 63 : Int)) = false := decide_eq_false (by omega)
  have e2 : decide (j ≥ (2 ^ 63 : Int)) = false := decide_eq_false (by omega)
  have big : ∀ r : Str, RelV (.str r) (.str r s.toks) := fun r => ⟨_, rfl⟩
  have sz : sizeLine = 16777216 := sizeLine_eq
  refine PySem.P.mul_str (by rw [e1, e2]; rfl) (fun h1 h2 => ?_) (fun h1 h2 => ?_) ?_
  · have hj1 : 1 ≤ j := by omega
    have e3 : (z.length : Int) * j ≤ 16777216 := by
      have : ((z.length * j.toNat : Nat) : Int) = (z.length : Int) * j := by rw [Int.natCast_mul, Int.toNat_of_nonneg (by omega)]
      omega
    have e4 : (z.length : Int) ≤ 16777216 := by
      have := Int.mul_le_mul_of_nonneg_left hj1 (show (0 : Int) ≤ (z.length : Int) by omega)
      omega
    have e5 : (16777216 : Int) ≤ (2 ^ 63 - 1) / j := by
      rw [Int.le_ediv_iff_mul_le (by omega)]
      omega
    omega
  · show decide (z.length * j.toNat > sizeLine) = false
    rw [decide_eq_false]; omega
  · by_cases h1 : j < 1
    · rw [if_pos h1]
      have e : repS z j = Str.empty := by unfold repS; rw [show j.toNat = 0 by omega]; rfl
      rw [e] at q
      exact ⟨Nat.zero_le _, .str Str.empty, H, I.tok _, ⟨_, rfl⟩, q⟩
    · rw [if_neg h1]
      split
      · rename_i h2
        rw [Bool.or_eq_true, beq_iff_eq, beq_iff_eq] at h2
        have e : repS z j = z := by
          unfold repS
          rcases h2 with h2 | h2
          · rw [h2, show (1 : Int).toNat = 1 from rfl, fold_one]
          · have : z.cps = #[] := Array.eq_empty_of_size_eq_zero h2
            rw [this, fold_empty, ← this]
        rw [e] at q
        exact ⟨.str z, H, I, ⟨_, rfl⟩, q⟩
      · refine ⟨?_, .str (repS z j), H, I.tok _, ⟨_, rfl⟩, q⟩
        show (repS z j).length ≤ _
        rw [repS_len, Nat.mul_comm]; omega
theorem op_fdivD : OpR X (binaryOp .FloorDiv) (rI (fun _ j => divOk j = true) fun i j => .int (i.fdiv j)) := opI fun i j _ _ _ _ _ hc q => by
  unfold divOk at hc
  rw [Bool.and_eq_true, decide_eq_true_eq, decide_eq_true_eq] at hc
  exact floordiv_int hc.1 q (.inl (PyProof.noPylong_of_log2 hc.2))
theorem op_powD : OpR X (binaryOp .Pow) (rI (fun i j => powOk i j = true) fun i j => .int (i ^ j.toNat)) := opI fun _ _ _ _ _ _ _ hc q => by
  unfold powOk at hc
  rw [Bool.and_eq_true, Bool.and_eq_true, decide_eq_true_eq, decide_eq_true_eq, decide_eq_true_eq] at hc
  exact pow_int_small hc.1.1 hc.1.2 hc.2 q
end
def Bop.py : Bop → Operator
  | .add => .Add | .sub => .Sub | .mul => .Mult | .fdiv => .FloorDiv | .mod => .Mod | .pow => .Pow
theorem sizeLn : sizeLine = Line := sizeLine_eq
section
variable {X : Cx} {G H : Hp}
/-- what an operator gives: the value stands, shared, behind -/
def OpD (X : Cx) (f : Value → Value → Sem Value) (g : D → D → R D) : Prop := ∃ r : R2, OpR X f r ∧
  ∀ (G H : Hp) (x y : V) (d e z : D) (Q : VK), Ok2 G H → PB X.K G H x d → PB X.K G H y e → g d e = .ok z → (∀ v H' G', Stp G H G' H' → Rp X.K G' v z → Q v H') → r x y H Q
theorem OpR.ex {f : Value → Value → Sem Value} {ι : Type} {r : ι → R2} (h : ∀ i, OpR X f (r i)) : OpR X f (fun x y H Q => ∃ i, r i x y H Q) := by
  intro pins s σ H x y v u Q I rx ry ⟨i, q⟩
  exact h i pins s σ H x y v u Q I rx ry q
/-- an operator by the values' data: the rule is chosen by the data -/
theorem opD_of {f : Value → Value → Sem Value} {g : D → D → R D}
    (h : ∀ (G H : Hp) (x y : V) (d e z : D) (Q : VK), Ok2 G H → PB X.K G H x d → PB X.K G H y e → g d e = .ok z → (∀ v H' G', Stp G H G' H' → Rp X.K G' v z → Q v H') → ∃ r : R2, OpR X f r ∧ r x y H Q) : OpD X f g := by
  refine ⟨fun x y H Q => ∃ r : { r : R2 // OpR X f r }, r.1 x y H Q, OpR.ex fun i => i.2, fun G H x y d e z Q o px py hg q => ?_⟩
  obtain ⟨r, hr, q'⟩ := h G H x y d e z Q o px py hg q
  exact ⟨⟨r, hr⟩, q'⟩
theorem PB.lst {v : V} {ds : List D} (h : PB X.K G H v (.lst ds)) (s : Same G H) : ∃ a xs, v = .ref a ∧ SqL X.K H a xs ∧ RpL X.K G xs ds := by
  rcases h with h | ⟨a, o, rfl, ho, hg, r⟩
  · obtain ⟨a, xs, rfl, h1, h2⟩ := lst_inv h
    exact ⟨a, xs, rfl, s.seq h1, h2⟩
  · cases r with
    | lst l => exact ⟨a, _, rfl, SqL.of ho, l⟩
theorem PB.tup {v : V} {ds : List D} (h : PB X.K G H v (.tup ds)) : ∃ a xs, v = .ref a ∧ SqT X.K G a xs ∧ RpL X.K G xs ds := by
  rcases h with h | ⟨a, o, rfl, ho, hg, r⟩
  · exact tup_inv h
  · cases r
theorem PB.int {v : V} {i : Int} (h : PB X.K G H v (.int i)) : v = .int i := by
  rcases h with h | ⟨a, o, rfl, ho, hg, r⟩
  · exact int_inv h
  · cases r
theorem PB.bl {v : V} {i : Bool} (h : PB X.K G H v (.bl i)) : v = .bl i := by
  rcases h with h | ⟨a, o, rfl, ho, hg, r⟩
  · exact bl_inv h
  · cases r
theorem PB.str {v : V} {i : Str} (h : PB X.K G H v (.str i)) : v = .str i := by
  rcases h with h | ⟨a, o, rfl, ho, hg, r⟩
  · exact str_inv h
  · cases r
theorem guard_ok {α : Type} {b : Bool} {r : R α} {a : α} (h : R.guard b r = .ok a) : b = true ∧ r = .ok a := by
  unfold R.guard at h
  split at h
  · exact ⟨by assumption, h⟩
  · cases h
theorem bind_okE {α β : Type} {r : R α} {f : α → R β} {b : β} (h : r.bind f = .ok b) : ∃ a, r = .ok a ∧ f a = .ok b := by
  cases r with
  | ok a => exact ⟨a, rfl, h⟩
  | exc c => cases h
  | bad => cases h
theorem newS {o : HO} {Q : VK} {z : D} (ok : Ok2 G H) (q : ∀ v H' G', Stp G H G' H' → Rp X.K G' v z → Q v H') (r : ∀ p, G p = none → Rp X.K (upd G p o) (.ref p) z) : ∀ p, H p = none → Q (.ref p) (upd H p o) :=
  fun p hp => q _ _ _ (Stp.newS ok hp) (r p (ok.s.free hp))
theorem opD_bin (o : Bop) : OpD X (binaryOp o.py) (binD o) := by
  refine opD_of fun G H x y d e z Q ok px py hg q => ?_
  have fin : ∀ {v : V}, Rp X.K G v z → Q v H := fun r => q _ _ _ (Stp.refl ok) r
  cases o with
  | add =>
    cases d with
    | int i =>
      cases e with
      | int j => cases hg; exact ⟨_, op_add, _, _, px.int, py.int, fin (.int _)⟩
      | _ => cases hg
    | str i =>
      cases e with
      | str j =>
        obtain ⟨g1, g2⟩ := guard_ok hg
        cases g2
        exact ⟨_, op_add_str, _, _, px.str, py.str, by rw [sizeLn]; exact of_decide_eq_true g1, fin (.str _)⟩
      | _ => cases hg
    | tup ds =>
      cases e with
      | tup es =>
        obtain ⟨g1, g2⟩ := guard_ok hg
        cases g2
        obtain ⟨a, xs, e1, h1, l1⟩ := px.tup
        obtain ⟨b, ys, e2, h2, l2⟩ := py.tup
        have n1 := l1.len
        have n2 := l2.len
        refine ⟨_, op_catA, a, b, xs, ys, e1, e2, seqT ok.s h1, seqT ok.s h2, ?_, fun e0 => ?_, fun _ e0 => ?_, fun _ _ => ?_⟩
        · rw [sizeLn, n1, n2]; exact of_decide_eq_true g1
        · subst e0
          cases l1
          exact fin (.tup h2 l2)
        · subst e0
          cases l2
          rw [List.append_nil] at fin
          exact fin (.tup h1 l1)
        · exact newS ok q fun p hp => .tup (SqT.of upd_same) ((l1.append l2).mono (same_upd hp))
      | _ => cases hg
    | lst ds =>
      cases e with
      | lst es =>
        obtain ⟨g1, g2⟩ := guard_ok hg
        cases g2
        obtain ⟨a, xs, e1, h1, l1⟩ := px.lst ok.s
        obtain ⟨b, ys, e2, h2, l2⟩ := py.lst ok.s
        have n1 := l1.len
        have n2 := l2.len
        refine ⟨_, op_catL, a, b, xs, ys, e1, e2, h1, h2, ?_, ?_⟩
        · rw [sizeLn, n1, n2]; exact of_decide_eq_true g1
        · exact newS ok q fun p hp => .lst (SqL.of upd_same) ((l1.append l2).mono (same_upd hp))
      | _ => cases hg
    | _ => cases hg
  | sub =>
    cases d with
    | int i =>
      cases e with
      | int j => cases hg; exact ⟨_, op_sub, _, _, px.int, py.int, fin (.int _)⟩
      | _ => cases hg
    | _ => cases hg
  | mul =>
    cases d with
    | int i =>
      cases e with
      | int j =>
        obtain ⟨g1, g2⟩ := guard_ok hg
        cases g2
        exact ⟨_, op_mulD, _, _, px.int, py.int, g1, fin (.int _)⟩
      | _ => cases hg
    | str s =>
      cases e with
      | int j =>
        obtain ⟨g1, g2⟩ := guard_ok hg
        cases g2
        rw [Bool.and_eq_true, decide_eq_true_eq, decide_eq_true_eq] at g1
        exact ⟨_, op_mulS, s, j, px.str, py.int, g1.1, g1.2, fin (.str _)⟩
      | _ => cases hg
    | _ => cases hg
  | fdiv =>
    cases d with
    | int i =>
      cases e with
      | int j =>
        obtain ⟨g1, g2⟩ := guard_ok hg
        cases g2
        exact ⟨_, op_fdivD, _, _, px.int, py.int, g1, fin (.int _)⟩
      | _ => cases hg
    | _ => cases hg
  | mod =>
    cases d with
    | int i =>
      cases e with
      | int j =>
        obtain ⟨g1, g2⟩ := guard_ok hg
        cases g2
        exact ⟨_, op_modN, _, _, px.int, py.int, of_decide_eq_true g1, fin (.int _)⟩
      | _ => cases hg
    | _ => cases hg
  | pow =>
    cases d with
    | int i =>
      cases e with
      | int j =>
        obtain ⟨g1, g2⟩ := guard_ok hg
        cases g2
        exact ⟨_, op_powD, _, _, px.int, py.int, g1, fin (.int _)⟩
      | _ => cases hg
    | _ => cases hg
theorem op_isB : OpR X (compareOp .Is) (fun x y H Q => ∃ i j, x = .bl i ∧ y = .bl j ∧ Q (.bl (i == j)) H) := by
  intro pins s σ H x y v u Q I rx ry h
  obtain ⟨i, j, rfl, rfl, q⟩ := h
  cases rx
  cases ry
  have e : (Value.bool i == Value.bool j) = (i == j) := by cases i <;> cases j <;> rfl
  exact wpAny_pure ⟨.bl (i == j), H, I, by rw [e]; rfl, q⟩
theorem op_isnotB : OpR X (compareOp .IsNot) (fun x y H Q => ∃ i j, x = .bl i ∧ y = .bl j ∧ Q (.bl (!(i == j))) H) := by
  intro pins s σ H x y v u Q I rx ry h
  obtain ⟨i, j, rfl, rfl, q⟩ := h
  cases rx
  cases ry
  have e : (Value.bool i == Value.bool j) = (i == j) := by cases i <;> cases j <;> rfl
  exact wpAny_pure ⟨.bl (!(i == j)), H, I, by rw [e]; rfl, q⟩
theorem PB.key {v : V} {d : D} {k : Key} (h : PB X.K G H v d) (e : keyD d = some k) : v = kV k := by
  cases d with
  | int i => cases e; rw [h.int]; rfl
  | str i => cases e; rw [h.str]; rfl
  | _ => cases e
theorem PB.dct {v : V} {f : Bool} {ks : List Key} {ds : List D} (h : PB X.K G H v (.dct f ks ds)) (s : Same G H) : ∃ a kvs, v = .ref a ∧ Rd H a (.dK kvs) ∧ kvs.map (·.1) = ks ∧ RpL X.K G (kvs.map (·.2)) ds := by
  rcases h with h | ⟨a, o, rfl, ho, hg, r⟩
  · cases h with
    | dct e l => exact ⟨_, _, rfl, .inl (s _ _ e), rfl, l⟩
    | dctL e l => exact ⟨_, _, rfl, .inr ⟨_, s _ _ e⟩, rfl, l⟩
  · cases r with
    | dct l => exact ⟨a, _, rfl, .inl ho, rfl, l⟩
theorem PB.dcT {v : V} {ks : List (List Key)} {ds : List D} (h : PB X.K G H v (.dcT ks ds)) (s : Same G H) : ∃ a kvs, v = .ref a ∧ Rd H a (.dT kvs) ∧ kvs.map (·.1) = ks ∧ RpL X.K G (kvs.map (·.2)) ds := by
  rcases h with h | ⟨a, o, rfl, ho, hg, r⟩
  · cases h with
    | dcT e l => exact ⟨_, _, rfl, .inl (s _ _ e), rfl, l⟩
  · cases r with
    | dcT l => exact ⟨a, _, rfl, .inl ho, rfl, l⟩
theorem PB.obj {v : V} {c : Nat} {ds : List D} (h : PB X.K G H v (.obj c ds)) : ∃ a C dx kvs, v = .ref a ∧ clsAt X.K c = some C ∧ G a = some (.ins C dx kvs) ∧ kvs.map (·.1) = fldN c ∧ RpL X.K G (kvs.map (·.2)) ds := by
  rcases h with h | ⟨a, o, rfl, ho, hg, r⟩
  · cases h with
    | obj hc e hn l => exact ⟨_, _, _, _, rfl, hc, e, hn, l⟩
  · cases r
theorem lkD_val {κ : Type} [DecidableEq κ] {K : PySem.W.Frag} {k : κ} : ∀ {kvs : List (κ × V)} {ds : List D}, RpL K G (kvs.map (·.2)) ds →
    (∀ d, lkD (kvs.map (·.1)) ds k = some d → ∃ v, valV kvs k = some v ∧ Rp K G v d) ∧ (lkD (kvs.map (·.1)) ds k = none → valV kvs k = none)
  | [], [], _ => ⟨(fun d h => nomatch h), fun _ => rfl⟩
  | [], _ :: _, h => by cases h
  | (j, v) :: r, [], h => by cases h
  | (j, v) :: r, d :: ds, h => by
    rw [List.map_cons] at h
    cases h with
    | cons h t =>
      obtain ⟨i1, i2⟩ := lkD_val (k := k) (kvs := r) t
      rw [List.map_cons]
      unfold lkD
      by_cases e : j = k
      · rw [if_pos e, valV_pos (p := (j, v)) e]
        exact ⟨(fun z q => by cases q; exact ⟨v, rfl, h⟩), (fun q => nomatch q)⟩
      · rw [if_neg e, valV_neg (p := (j, v)) e]
        exact ⟨i1, i2⟩
theorem op_inDc (hu : X.A.units + 64 < cLine) : OpR X (compareOp .In) (fun x y H Q => ∃ a o, y = .ref a ∧ DGet H a x o ∧ Q (.bl o.isSome) H) := by
  intro pins s σ H x y v u Q I rx ry h
  obtain ⟨a, o, rfl, g, q⟩ := h
  cases ry
  exact d_in (by omega) I g rx fun s' I' => ⟨.bl o.isSome, H, I', rfl, q⟩
theorem op_notinDc (hu : X.A.units + 64 < cLine) : OpR X (compareOp .NotIn) (fun x y H Q => ∃ a o, y = .ref a ∧ DGet H a x o ∧ Q (.bl (!o.isSome)) H) := by
  intro pins s σ H x y v u Q I rx ry h
  obtain ⟨a, o, rfl, g, q⟩ := h
  cases ry
  exact d_notIn (by omega) I g rx fun s' I' => ⟨.bl (!o.isSome), H, I', rfl, q⟩
/-- what a dict holds at a key -/
theorem dget_of {x y : V} {d : D} {f : Bool} {ks : List Key} {ds : List D} {k : Key} (s : Same G H) (px : PB X.K G H x (.dct f ks ds)) (py : PB X.K G H y d) (e : keyD d = some k) :
    ∃ a o, x = .ref a ∧ DGet H a y o ∧ (∀ d, lkD ks ds k = some d → ∃ v, o = some v ∧ Rp X.K G v d) ∧ (lkD ks ds k = none → o = none) := by
  obtain ⟨a, kvs, rfl, h1, rfl, h3⟩ := px.dct s
  obtain ⟨i1, i2⟩ := lkD_val (k := k) h3
  exact ⟨a, valV kvs k, rfl, .inl ⟨kvs, k, h1, py.key e, rfl⟩, i1, i2⟩
theorem inD_dct {x y : V} {d : D} {f : Bool} {ks : List Key} {ds : List D} {b : Bool} (s : Same G H) (px : PB X.K G H x d) (py : PB X.K G H y (.dct f ks ds)) (h : inD d (.dct f ks ds) = .ok b) :
    ∃ a o, y = .ref a ∧ DGet H a x o ∧ b = o.isSome := by
  have h : (match keyD d with | some k => R.ok (lkD ks ds k).isSome | none => R.bad) = .ok b := by cases d <;> exact h
  cases e : keyD d with
  | none => rw [e] at h; cases h
  | some k =>
    rw [e] at h
    cases h
    obtain ⟨a, o, rfl, g, i1, i2⟩ := dget_of s py px e
    refine ⟨a, o, rfl, g, ?_⟩
    cases q : lkD ks ds k with
    | none => rw [i2 q]; rfl
    | some z => obtain ⟨v, rfl, _⟩ := i1 z q; rfl
def Cop.py : Cop → CmpOp
  | .lt => .Lt | .le => .LtE | .gt => .Gt | .ge => .GtE | .eq => .Eq | .ne => .NotEq | .in_ => .In | .notin => .NotIn | .is_ => .Is | .isnot => .IsNot
/-- a sign in a text -/
theorem inD_str {x y : V} {d : D} {z : Str} {b : Bool} (px : PB X.K G H x d) (py : PB X.K G H y (.str z)) (h : inD d (.str z) = .ok b) :
    ∃ c : Nat, x = .str ⟨#[c]⟩ ∧ y = .str z ∧ b = decide (c ∈ z.cps.toList) := by
  cases d with
  | str s =>
    obtain ⟨g1, g2⟩ := guard_ok h
    cases g2
    have g1 : s.cps.size = 1 := of_decide_eq_true g1
    obtain ⟨c, hc⟩ : ∃ c, s.cps = #[c] := Array.size_eq_one_iff.mp g1
    have e : s = ⟨#[c]⟩ := by cases s; simp at hc; rw [hc]
    subst e
    exact ⟨c, px.str, py.str, rfl⟩
  | _ => cases h
theorem inD_inv {G H : Hp} {x y : V} {d e : D} {b : Bool} (hd : ∀ f ks vs, e ≠ .dct f ks vs) (hs : ∀ z, e ≠ .str z) (ok : Ok2 G H) (px : PB X.K G H x d) (py : PB X.K G H y e) (h : inD d e = .ok b) :
    ∃ es, Dp X.K H x d.py ∧ (Dp X.K H y (.list es) ∨ Dp X.K H y (.tuple es)) ∧ d.py.plain = true ∧ PyData.plainAll es = true ∧ d.py.depth ≤ 60 ∧ b = es.any fun z => PyData.eqv z d.py := by
  have hx := px.rd ok.s
  have hy := py.rd ok.s
  cases e with
  | lst es =>
    obtain ⟨g1, g2⟩ := guard_ok h
    cases g2
    unfold inOk at g1
    rw [Bool.and_eq_true, Bool.and_eq_true, decide_eq_true_eq] at g1
    refine ⟨_, dp_of hx g1.1.1, .inl ?_, g1.1.1, g1.1.2, g1.2, rfl⟩
    have := dp_of hy (by rw [D.py, PyData.plain]; exact g1.1.2)
    rwa [D.py] at this
  | tup es =>
    obtain ⟨g1, g2⟩ := guard_ok h
    cases g2
    unfold inOk at g1
    rw [Bool.and_eq_true, Bool.and_eq_true, decide_eq_true_eq] at g1
    refine ⟨_, dp_of hx g1.1.1, .inr ?_, g1.1.1, g1.1.2, g1.2, rfl⟩
    have := dp_of hy (by rw [D.py, PyData.plain]; exact g1.1.2)
    rwa [D.py] at this
  | dct f ks vs => exact absurd rfl (hd f ks vs)
  | str z => exact absurd rfl (hs z)
  | _ => (cases d <;> cases h)
theorem ltP_ok {x y z : D} (h : ltP x y = .ok z) : ∃ a b c d : Int, x = .tup [.int a, .int b] ∧ y = .tup [.int c, .int d] ∧ z = .bl (decide (a < c ∨ (a = c ∧ b < d))) := by
  unfold ltP at h
  split at h
  · cases h; exact ⟨_, _, _, _, rfl, rfl, rfl⟩
  · cases h
theorem opD_cmp (hu : X.A.units + 64 < cLine) (o : Cop) : OpD X (compareOp o.py) (cmpD o) := by
  refine opD_of fun G H x y d e z Q ok px py hg q => ?_
  have fin : ∀ {v : V}, Rp X.K G v z → Q v H := fun r => q _ _ _ (Stp.refl ok) r
  have lt4 : ∀ {op : CmpOp} {p : Int → Int → Bool}, OpR X (compareOp op) (rI0 fun i j => .bl (p i j)) → ∀ {i j : Int}, d = .int i → e = .int j → z = .bl (p i j) → ∃ r : R2, OpR X (compareOp op) r ∧ r x y H Q := by
    intro op p hr i j e1 e2 e3
    subst e1 e2 e3
    exact ⟨_, hr, _, _, px.int, py.int, fin (.bl _)⟩
  cases o with
  | lt =>
    cases d with
    | int i =>
      cases e with
      | int j => cases hg; exact lt4 op_lt rfl rfl rfl
      | _ => cases hg
    | tup ds =>
      obtain ⟨a, b, c, d2, e1, e2, e3⟩ := ltP_ok (show ltP (.tup ds) e = .ok z from hg)
      rw [e1] at px
      rw [e2] at py
      have pl : ∀ i j : Int, (D.tup [.int i, .int j]).py.plain = true := fun i j => by simp [D.py, D.pyL, PyData.plain, PyData.plainAll]
      refine ⟨_, op_ltD hu, _, _, dp_of (px.rd ok.s) (pl a b), dp_of (py.rd ok.s) (pl c d2), ?_, ?_, ?_, ?_⟩
      · simp [D.py, D.pyL, PySem.W.alike, PySem.W.alikeAll]
      · simp [D.py]
      · simp [D.py, D.pyL, PyData.depth, PyData.depthAll]
      · have : PySem.W.dataLt (D.tup [.int a, .int b]).py (D.tup [.int c, .int d2]).py = decide (a < c ∨ (a = c ∧ b < d2)) := by
          simp only [D.py, D.pyL]; exact PySem.W.dataLt_ii a b c d2
        rw [this]
        subst e3
        exact fin (.bl _)
    | str i =>
      cases e with
      | str j => cases hg; exact ⟨_, op_lt_str, i, j, px.str, py.str, fin (.bl _)⟩
      | _ => cases hg
    | _ => cases hg
  | le =>
    cases d with
    | int i =>
      cases e with
      | int j => cases hg; exact lt4 op_le rfl rfl rfl
      | _ => cases hg
    | _ => cases hg
  | gt =>
    cases d with
    | int i =>
      cases e with
      | int j => cases hg; exact lt4 op_gt rfl rfl rfl
      | _ => cases hg
    | str i =>
      cases e with
      | str j => cases hg; exact ⟨_, op_gt_str, i, j, px.str, py.str, fin (.bl _)⟩
      | _ => cases hg
    | _ => cases hg
  | ge =>
    cases d with
    | int i =>
      cases e with
      | int j => cases hg; exact lt4 op_ge rfl rfl rfl
      | _ => cases hg
    | _ => cases hg
  | eq =>
    obtain ⟨b, h1, h2⟩ := bind_okE (show ((eqD d e).bind fun b => .ok (.bl b)) = .ok z by cases d <;> exact hg)
    cases h2
    obtain ⟨g1, g2⟩ := guard_ok h1
    cases g2
    unfold eqOk at g1
    rw [Bool.and_eq_true, Bool.and_eq_true, decide_eq_true_eq] at g1
    exact ⟨_, op_eqP hu, _, _, dp_of (px.rd ok.s) g1.1.1, dp_of (py.rd ok.s) g1.1.2, g1.1.1, g1.1.2, g1.2, fin (.bl _)⟩
  | ne =>
    obtain ⟨b, h1, h2⟩ := bind_okE (show ((eqD d e).bind fun b => .ok (.bl (!b))) = .ok z by cases d <;> exact hg)
    cases h2
    obtain ⟨g1, g2⟩ := guard_ok h1
    cases g2
    unfold eqOk at g1
    rw [Bool.and_eq_true, Bool.and_eq_true, decide_eq_true_eq] at g1
    exact ⟨_, op_neP hu, _, _, dp_of (px.rd ok.s) g1.1.1, dp_of (py.rd ok.s) g1.1.2, g1.1.1, g1.1.2, g1.2, fin (.bl _)⟩
  | in_ =>
    obtain ⟨b, h1, h2⟩ := bind_okE (show ((inD d e).bind fun b => .ok (.bl b)) = .ok z by cases d <;> exact hg)
    cases h2
    by_cases hd : ∃ f ks vs, e = .dct f ks vs
    · obtain ⟨f, ks, vs, rfl⟩ := hd
      obtain ⟨a, o, e1, g, rfl⟩ := inD_dct ok.s px py h1
      exact ⟨_, op_inDc hu, a, o, e1, g, fin (.bl _)⟩
    by_cases hs : ∃ z, e = .str z
    · obtain ⟨z, rfl⟩ := hs
      obtain ⟨c, e1, e2, rfl⟩ := inD_str px py h1
      exact ⟨_, op_in_sign, c, z, e1, e2, fin (.bl _)⟩
    obtain ⟨es, k1, k2, k3, k4, k5, k6⟩ := inD_inv (fun f ks vs q => hd ⟨f, ks, vs, q⟩) (fun z q => hs ⟨z, q⟩) ok px py h1
    subst k6
    exact ⟨_, op_inP hu, _, es, k1, k2, k3, k4, k5, fin (.bl _)⟩
  | notin =>
    obtain ⟨b, h1, h2⟩ := bind_okE (show ((inD d e).bind fun b => .ok (.bl (!b))) = .ok z by cases d <;> exact hg)
    cases h2
    by_cases hd : ∃ f ks vs, e = .dct f ks vs
    · obtain ⟨f, ks, vs, rfl⟩ := hd
      obtain ⟨a, o, e1, g, rfl⟩ := inD_dct ok.s px py h1
      exact ⟨_, op_notinDc hu, a, o, e1, g, fin (.bl _)⟩
    by_cases hs : ∃ z, e = .str z
    · obtain ⟨z, rfl⟩ := hs
      obtain ⟨c, e1, e2, rfl⟩ := inD_str px py h1
      exact ⟨_, op_notIn_sign, c, z, e1, e2, fin (.bl _)⟩
    obtain ⟨es, k1, k2, k3, k4, k5, k6⟩ := inD_inv (fun f ks vs q => hd ⟨f, ks, vs, q⟩) (fun z q => hs ⟨z, q⟩) ok px py h1
    subst k6
    exact ⟨_, op_notinP hu, _, es, k1, k2, k3, k4, k5, fin (.bl _)⟩
  | is_ =>
    cases d with
    | bl i =>
      cases e with
      | bl j => cases hg; exact ⟨_, op_isB, _, _, px.bl, py.bl, fin (.bl _)⟩
      | _ => cases hg
    | _ => cases hg
  | isnot =>
    cases d with
    | bl i =>
      cases e with
      | bl j => cases hg; exact ⟨_, op_isnotB, _, _, px.bl, py.bl, fin (.bl _)⟩
      | _ => cases hg
    | _ => cases hg
end
end Den
namespace Den
open PySem PySem.Spec PyProof.Rows L2
inductive Kd where | S | T | B
  deriving DecidableEq
def PK (k : Kd) (K : PySem.W.Frag) (G H G' H' : Hp) (v : V) (d : D) : Prop := match k with
  | .S => Rp K G' v d
  | .T => ∃ a o, v = .ref a ∧ H a = none ∧ H' a = some o ∧ G' a = none ∧ RpO K G' o d
  | .B => PB K G' H' v d
theorem PK.shift {k : Kd} {K : PySem.W.Frag} {G H G1 H1 G2 H2 : Hp} {v : V} {d : D} (t : Stp G H G1 H1) (h : PK k K G1 H1 G2 H2 v d) : PK k K G H G2 H2 v d := by
  cases k with
  | S => exact h
  | T =>
    obtain ⟨a, o, e, n, r⟩ := h
    exact ⟨a, o, e, t.h.free n, r⟩
  | B => exact h
theorem PK.toB {k : Kd} {K : PySem.W.Frag} {G H G2 H2 : Hp} {v : V} {d : D} (h : PK k K G H G2 H2 v d) : PB K G2 H2 v d := by
  cases k with
  | S => exact .inl h
  | T =>
    obtain ⟨a, o, e, n, r⟩ := h
    exact .inr ⟨a, o, e, r⟩
  | B => exact h
/-- a value that is not borrowed may be shared -/
theorem PK.toS {k : Kd} {K : PySem.W.Frag} {G H G2 H2 : Hp} {v : V} {d : D} (hk : k ≠ .B) (t : Stp G H G2 H2) (h : PK k K G H G2 H2 v d) : ∃ G3, Stp G H G3 H2 ∧ Rp K G3 v d := by
  cases k with
  | S => exact ⟨G2, t, h⟩
  | T =>
    obtain ⟨a, o, rfl, n, ho, hg, r⟩ := h
    exact ⟨_, t.freeze n hg ho, r.freeze hg⟩
  | B => exact absurd rfl hk
inductive PBL (K : PySem.W.Frag) (G H : Hp) : List V → List D → Prop
  | nil : PBL K G H [] []
  | cons {v : V} {vs : List V} {d : D} {ds : List D} : PB K G H v d → PBL K G H vs ds → PBL K G H (v :: vs) (d :: ds)
theorem PBL.step {K : PySem.W.Frag} {G H G1 H1 : Hp} (t : Stp G H G1 H1) : ∀ {vs : List V} {ds : List D}, PBL K G H vs ds → PBL K G1 H1 vs ds
  | _, _, .nil => .nil
  | _, _, .cons h l => .cons (h.step t) (PBL.step t l)
theorem PBL.len {K : PySem.W.Frag} {G H : Hp} : ∀ {vs : List V} {ds : List D}, PBL K G H vs ds → vs.length = ds.length
  | _, _, .nil => rfl
  | _, _, .cons _ l => by rw [List.length_cons, List.length_cons, l.len]
theorem PBL.rd {K : PySem.W.Frag} {G H : Hp} (s : Same G H) : ∀ {vs : List V} {ds : List D}, PBL K G H vs ds → RpL K H vs ds
  | _, _, .nil => .nil
  | _, _, .cons h l => .cons (h.rd s) (PBL.rd s l)
theorem PBL.of {K : PySem.W.Frag} {G H : Hp} : ∀ {vs : List V} {ds : List D}, RpL K G vs ds → PBL K G H vs ds
  | _, _, .nil => .nil
  | _, _, .cons h l => .cons (.inl h) (PBL.of l)
theorem PBL.one {K : PySem.W.Frag} {G H : Hp} {vs : List V} {d : D} (h : PBL K G H vs [d]) : ∃ v, vs = [v] ∧ PB K G H v d := by
  cases h with
  | cons h l => cases l; exact ⟨_, rfl, h⟩
theorem PBL.two {K : PySem.W.Frag} {G H : Hp} {vs : List V} {d e : D} (h : PBL K G H vs [d, e]) : ∃ v w, vs = [v, w] ∧ PB K G H v d ∧ PB K G H w e := by
  cases h with
  | cons h l =>
    cases l with
    | cons h2 l => cases l; exact ⟨_, _, rfl, h, h2⟩
theorem dInts_map : ∀ {ds : List D} {is : List Int}, dInts ds = some is → ds = is.map .int
  | [], is, h => by cases h; rfl
  | .int i :: r, is, h => by
    rw [dInts] at h
    cases e : dInts r with
    | none => rw [e] at h; cases h
    | some js => rw [e] at h; cases h; rw [List.map_cons, ← dInts_map e]
  | .non :: _, _, h => by cases h
  | .bl _ :: _, _, h => by cases h
  | .str _ :: _, _, h => by cases h
  | .tup _ :: _, _, h => by cases h
  | .lst _ :: _, _, h => by cases h
  | .dct _ _ _ :: _, _, h => by cases h
  | .dcT _ _ :: _, _, h => by cases h
  | .obj _ _ :: _, _, h => by cases h
@[simp] theorem dInts_of : ∀ is : List Int, dInts (is.map .int) = some is
  | [] => rfl
  | i :: r => by rw [List.map_cons, dInts, dInts_of r]; rfl
theorem dBls_map : ∀ {ds : List D} {is : List Bool}, dBls ds = some is → ds = is.map .bl
  | [], is, h => by cases h; rfl
  | .bl i :: r, is, h => by
    rw [dBls] at h
    cases e : dBls r with
    | none => rw [e] at h; cases h
    | some js => rw [e] at h; cases h; rw [List.map_cons, ← dBls_map e]
  | .non :: _, _, h => by cases h
  | .int _ :: _, _, h => by cases h
  | .str _ :: _, _, h => by cases h
  | .tup _ :: _, _, h => by cases h
  | .lst _ :: _, _, h => by cases h
  | .dct _ _ _ :: _, _, h => by cases h
  | .dcT _ _ :: _, _, h => by cases h
  | .obj _ _ :: _, _, h => by cases h
@[simp] theorem dBls_of : ∀ is : List Bool, dBls (is.map .bl) = some is
  | [] => rfl
  | i :: r => by rw [List.map_cons, dBls, dBls_of r]; rfl
theorem someR_ok {α : Type} {o : Option α} {a : α} (h : someR o = .ok a) : o = some a := by
  cases o with
  | none => cases h
  | some b => cases h; rfl
theorem insI_perm (i : Int) : ∀ l : List Int, (insI i l).Perm (i :: l)
  | [] => .refl _
  | j :: r => by
    rw [insI]
    split
    · exact .refl _
    · exact (List.Perm.cons j (insI_perm i r)).trans (List.Perm.swap i j r)
theorem sortI_perm : ∀ l : List Int, (sortI l).Perm l
  | [] => .refl _
  | i :: r => (insI_perm i (sortI r)).trans (List.Perm.cons i (sortI_perm r))
theorem insI_srt (i : Int) : ∀ l : List Int, l.Pairwise (· ≤ ·) → (insI i l).Pairwise (· ≤ ·)
  | [], _ => List.pairwise_singleton _ _
  | j :: r, h => by
    rw [insI]
    rw [List.pairwise_cons] at h
    split
    · rename_i hij
      refine List.pairwise_cons.mpr ⟨fun x hx => ?_, List.pairwise_cons.mpr h⟩
      rcases List.mem_cons.mp hx with e | hx
      · rw [e]; exact hij
      · exact Int.le_trans hij (h.1 x hx)
    · rename_i hij
      refine List.pairwise_cons.mpr ⟨fun x hx => ?_, insI_srt i r h.2⟩
      rcases List.mem_cons.mp ((insI_perm i r).mem_iff.mp hx) with e | hx
      · rw [e]; omega
      · exact h.1 x hx
theorem sortI_srt : ∀ l : List Int, (sortI l).Pairwise (· ≤ ·)
  | [] => .nil
  | i :: r => insI_srt i _ (sortI_srt r)
theorem sorted_uniq : ∀ {l m : List Int}, l.Perm m → l.Pairwise (· ≤ ·) → m.Pairwise (· ≤ ·) → l = m
  | [], m, p, _, _ => by rw [List.nil_perm.mp p]
  | i :: l, [], p, _, _ => by have := p.length_eq; simp at this
  | i :: l, j :: m, p, hl, hm => by
    rw [List.pairwise_cons] at hl hm
    have e : i = j := by
      have h1 : i ∈ j :: m := p.mem_iff.mp (by simp)
      have h2 : j ∈ i :: l := p.mem_iff.mpr (by simp)
      rcases List.mem_cons.mp h1 with e | h1
      · exact e
      · rcases List.mem_cons.mp h2 with e | h2
        · exact e.symm
        · have a := hl.1 j h2
          have b := hm.1 i h1
          omega
    subst e
    rw [sorted_uniq (List.perm_cons i |>.mp p) hl.2 hm.2]
theorem maxI_spec : ∀ (m : Int) (l : List Int), maxI m l ∈ m :: l ∧ ∀ y ∈ m :: l, y ≤ maxI m l
  | m, [] => ⟨by simp [maxI], fun y hy => by simp at hy; rw [hy, maxI]; exact Int.le_refl _⟩
  | m, i :: r => by
    rw [maxI]
    obtain ⟨h1, h2⟩ := maxI_spec (if i > m then i else m) r
    have hle := h2 _ (List.mem_cons_self)
    refine ⟨?_, fun y hy => ?_⟩
    · rcases List.mem_cons.mp h1 with e | h1
      · rw [e]; split <;> simp
      · exact List.mem_cons_of_mem _ (List.mem_cons_of_mem _ h1)
    · rcases List.mem_cons.mp hy with e | hy
      · rw [e]; refine Int.le_trans ?_ hle; split <;> omega
      · rcases List.mem_cons.mp hy with e | hy
        · rw [e]; refine Int.le_trans ?_ hle; split <;> omega
        · exact h2 _ (List.mem_cons_of_mem _ hy)
theorem minI_spec : ∀ (m : Int) (l : List Int), minI m l ∈ m :: l ∧ ∀ y ∈ m :: l, minI m l ≤ y
  | m, [] => ⟨by simp [minI], fun y hy => by simp at hy; rw [hy, minI]; exact Int.le_refl _⟩
  | m, i :: r => by
    rw [minI]
    obtain ⟨h1, h2⟩ := minI_spec (if i < m then i else m) r
    have hle := h2 _ (List.mem_cons_self)
    refine ⟨?_, fun y hy => ?_⟩
    · rcases List.mem_cons.mp h1 with e | h1
      · rw [e]; split <;> simp
      · exact List.mem_cons_of_mem _ (List.mem_cons_of_mem _ h1)
    · rcases List.mem_cons.mp hy with e | hy
      · rw [e]; refine Int.le_trans hle ?_; split <;> omega
      · rcases List.mem_cons.mp hy with e | hy
        · rw [e]; refine Int.le_trans hle ?_; split <;> omega
        · exact h2 _ (List.mem_cons_of_mem _ hy)
def Bi.nm : Bi → Str
  | .len => "len" | .min2 => "min" | .max2 => "max" | .sum => "sum" | .min1 => "min" | .max1 => "max" | .all => "all" | .any => "any"
  | .list => "list" | .tuple => "tuple" | .sorted => "sorted" | .int_ => "int" | .str_ => "str"
def Bi.val : Bi → Value
  | .len => .builtin "len" | .min2 => .builtin "min" | .max2 => .builtin "max" | .sum => .builtin "sum" | .min1 => .builtin "min" | .max1 => .builtin "max" | .all => .builtin "all" | .any => .builtin "any"
  | .list => .type "list" | .tuple => .type "tuple" | .sorted => .builtin "sorted" | .int_ => .type "int" | .str_ => .type "str"
def Bi.kd : Bi → Kd
  | .list => .T | .sorted => .T | _ => .S
section
variable {X : Cx} {G H : Hp}
theorem CallR.ex {f : Value} {ι : Type} {r : ι → List V → Hp → VK → Prop} (h : ∀ i, CallR X f (r i)) : CallR X f (fun xs H Q => ∃ i, r i xs H Q) := by
  intro pins s σ H xs us Q I rv ⟨i, q⟩
  exact h i pins s σ H xs us Q I rv q
def CallD (X : Cx) (f : Value) (k : Kd) (g : List D → R D) : Prop := ∃ r : List V → Hp → VK → Prop, CallR X f r ∧
  ∀ (G H : Hp) (xs : List V) (ds : List D) (z : D) (Q : VK), Ok2 G H → PBL X.K G H xs ds → g ds = .ok z → (∀ v H' G', Stp G H G' H' → PK k X.K G H G' H' v z → Q v H') → r xs H Q
theorem callD_of {f : Value} {k : Kd} {g : List D → R D}
    (h : ∀ (G H : Hp) (xs : List V) (ds : List D) (z : D) (Q : VK), Ok2 G H → PBL X.K G H xs ds → g ds = .ok z → (∀ v H' G', Stp G H G' H' → PK k X.K G H G' H' v z → Q v H') → ∃ r : List V → Hp → VK → Prop, CallR X f r ∧ r xs H Q) : CallD X f k g := by
  refine ⟨fun xs H Q => ∃ r : { r : List V → Hp → VK → Prop // CallR X f r }, r.1 xs H Q, CallR.ex fun i => i.2, fun G H xs ds z Q o px hg q => ?_⟩
  obtain ⟨r, hr, q'⟩ := h G H xs ds z Q o px hg q
  exact ⟨⟨r, hr⟩, q'⟩
theorem newT {o : HO} {Q : VK} {z : D} (ok : Ok2 G H) (w : Owb o) (q : ∀ v H' G', Stp G H G' H' → PK .T X.K G H G' H' v z → Q v H') (r : RpO X.K G o z) : ∀ p, H p = none → Q (.ref p) (upd H p o) :=
  fun p hp => q _ _ _ (Stp.newO ok hp w) ⟨p, o, rfl, hp, upd_same, ok.s.free hp, r⟩
def prP (p : Int × Int) : D := .tup [.int p.1, .int p.2]
theorem prP_py (p : Int × Int) : (prP p).py = .tuple [.int p.1, .int p.2] := by simp [prP, D.py, D.pyL]
theorem dPrs_map : ∀ {ds : List D} {ps : List (Int × Int)}, dPrs ds = some ps → ds = ps.map prP
  | [], ps, h => by cases h; rfl
  | d :: r, ps, h => by
    unfold dPrs at h
    split at h
    · rename_i e; cases e
    · rename_i a b r' e
      cases e
      cases q : dPrs r with
      | none => rw [q] at h; cases h
      | some s => rw [q] at h; cases h; rw [List.map_cons, dPrs_map q]; rfl
    · cases h
theorem minD_prs (p : Int × Int) : ∀ r : List (Int × Int), PySem.W.minD (.tuple [.int p.1, .int p.2]) (r.map fun p => PyData.tuple [.int p.1, .int p.2]) = .tuple [.int (minP p r).1, .int (minP p r).2] := fun r => by
  induction r generalizing p with
  | nil => rfl
  | cons q r ih =>
    have : PySem.W.minD (.tuple [.int p.1, .int p.2]) ((q :: r).map fun p => PyData.tuple [.int p.1, .int p.2]) = PySem.W.minD (if PySem.W.dataLt (.tuple [.int q.1, .int q.2]) (.tuple [.int p.1, .int p.2]) then .tuple [.int q.1, .int q.2] else .tuple [.int p.1, .int p.2]) (r.map fun p => PyData.tuple [.int p.1, .int p.2]) := rfl
    rw [this, PySem.W.dataLt_ii]
    have e : minP p (q :: r) = minP (if q.1 < p.1 ∨ (q.1 = p.1 ∧ q.2 < p.2) then q else p) r := rfl
    rw [e]
    by_cases k : q.1 < p.1 ∨ (q.1 = p.1 ∧ q.2 < p.2)
    · rw [if_pos k, if_pos (decide_eq_true k)]; exact ih q
    · rw [if_neg k, if_neg (by rw [decide_eq_false k]; exact Bool.false_ne_true)]; exact ih p
theorem prs_plain (l : List (Int × Int)) : PyData.plainAll (D.pyL (l.map prP)) = true := by
  induction l with
  | nil => rfl
  | cons x r ih => simp [D.pyL, PyData.plainAll, prP_py, PyData.plain, ih]
theorem prs_alike (l : List (Int × Int)) : PySem.W.AlikeAll ((l.map prP).map D.py) := by
  refine ⟨fun x hx y hy => ?_, fun x hx => ?_⟩
  · obtain ⟨u, hu, rfl⟩ := List.mem_map.mp hx
    obtain ⟨p, _, rfl⟩ := List.mem_map.mp hu
    obtain ⟨v, hv, rfl⟩ := List.mem_map.mp hy
    obtain ⟨q, _, rfl⟩ := List.mem_map.mp hv
    rw [prP_py, prP_py]; simp [PySem.W.alike, PySem.W.alikeAll]
  · obtain ⟨u, hu, rfl⟩ := List.mem_map.mp hx
    obtain ⟨p, _, rfl⟩ := List.mem_map.mp hu
    rw [prP_py]; exact fun h => nomatch h
theorem prs_dep (l : List (Int × Int)) : PyData.depthAll ((l.map prP).map D.py) ≤ 1 := by
  induction l with
  | nil => simp [PyData.depthAll]
  | cons x r ih =>
    rw [List.map_cons, List.map_cons, PyData.depthAll, prP_py]
    exact Nat.max_le.mpr ⟨by simp [PyData.depth, PyData.depthAll], ih⟩
/-- one argument, a list -/
theorem lst1 {xs : List V} {ds : List D} (ok : Ok2 G H) (h : PBL X.K G H xs [.lst ds]) : ∃ a vs, xs = [.ref a] ∧ SqL X.K H a vs ∧ RpL X.K G vs ds := by
  obtain ⟨v, rfl, p⟩ := h.one
  obtain ⟨a, vs, rfl, h1, h2⟩ := p.lst ok.s
  exact ⟨a, vs, rfl, h1, h2⟩
theorem sorted_rp {K : PySem.W.Frag} {l : List (V × D)} (h : ∀ p ∈ l, Rp K G p.1 p.2) : RpL K G (l.map Prod.fst) (l.map Prod.snd) := by
  induction l with
  | nil => exact .nil
  | cons p r ih => exact .cons (h p (.head _)) (ih fun q hq => h q (.tail _ hq))
theorem zip_rp {K : PySem.W.Frag} : ∀ {vs : List V} {ds : List D}, RpL K G vs ds → (∀ p ∈ vs.zip ds, Rp K G p.1 p.2) ∧ (vs.zip ds).map Prod.fst = vs ∧ (vs.zip ds).map Prod.snd = ds
  | _, _, .nil => ⟨(fun _ h => nomatch h), rfl, rfl⟩
  | _, _, .cons (v := v) (vs := vs) (d := d) (ds := ds) r t => by
    obtain ⟨h1, h2, h3⟩ := zip_rp t
    refine ⟨fun p hp => ?_, ?_, ?_⟩
    · rcases List.mem_cons.mp (show p ∈ (v, d) :: vs.zip ds from hp) with e | hp
      · rw [e]; exact r
      · exact h1 p hp
    · show v :: (vs.zip ds).map Prod.fst = _; rw [h2]
    · show d :: (vs.zip ds).map Prod.snd = _; rw [h3]
theorem pyL_map : ∀ l : List D, D.pyL l = l.map D.py
  | [] => rfl
  | d :: r => by rw [D.pyL, List.map_cons, pyL_map r]
theorem sortOk_ok {xs : List D} (h : sortOk xs = true) : PyData.plainAll (D.pyL xs) = true ∧ PySem.W.AllAlike (xs.map D.py) ∧ PySem.W.Sortable (xs.map D.py) ∧ ∀ d ∈ xs, d.py.depth ≤ 60 := by
  unfold sortOk at h
  simp only [Bool.and_eq_true, Bool.or_eq_true, List.all_eq_true, decide_eq_true_eq] at h
  obtain ⟨⟨⟨h1, h2⟩, h3⟩, h4⟩ := h
  refine ⟨h1, fun d hd e he => ?_, ?_, h4⟩
  · obtain ⟨a, ha, rfl⟩ := List.mem_map.mp hd
    obtain ⟨b, hb, rfl⟩ := List.mem_map.mp he
    exact h2 a ha b hb
  · rcases h3 with h3 | h3
    · refine .inl fun d hd => ?_
      obtain ⟨a, ha, rfl⟩ := List.mem_map.mp hd
      have k := h3 a ha
      cases a with
      | tup l =>
        cases l with
        | nil => cases k
        | cons x r => exact ⟨x.py, D.pyL r, by rw [D.py, D.pyL]⟩
      | _ => cases k
    · refine .inr fun d hd => ?_
      obtain ⟨a, ha, rfl⟩ := List.mem_map.mp hd
      have k := h3 a ha
      cases a with
      | int i => rw [D.py]; exact ⟨(fun q => nomatch q), (fun _ q => nomatch q)⟩
      | str i => rw [D.py]; exact ⟨(fun q => nomatch q), (fun _ q => nomatch q)⟩
      | _ => cases k
theorem kD_rp {K : PySem.W.Frag} : ∀ ks : List Key, RpL K G (ks.map kV) (ks.map kD)
  | [] => .nil
  | .inl i :: r => .cons (.int i) (kD_rp r)
  | .inr i :: r => .cons (.str i) (kD_rp r)
theorem tup_at (ok : Ok2 G H) {b : Addr} {xs : List V} (e : H b = some (.tup xs)) : G b = some (.tup xs) := by
  cases h : G b with
  | none => exact (ok.z b _ e h).elim
  | some o => have := ok.s _ _ h; rw [e] at this; cases this; rfl
theorem keys_rp {K : PySem.W.Frag} (ok : Ok2 G H) : ∀ {kvs : List (List Key × V)} {bs : List Addr}, IsKeys H kvs bs → RpL K G (bs.map V.ref) ((kvs.map (·.1)).map fun k => D.tup (k.map kD))
  | _, _, .nil => .nil
  | _, _, .cons h t => .cons (.tup (SqT.of (tup_at ok h)) (kD_rp _)) (keys_rp ok t)
theorem callD_bi (hc : X.calm = true) (hu : X.A.units + 64 < cLine) (b : Bi) : CallD X b.val b.kd (biD b) := by
  refine callD_of fun G H xs ds z Q ok px hg q => ?_
  cases b with
  | len =>
    have fin : ∀ {v : V}, Rp X.K G v z → Q v H := fun r => q _ _ _ (Stp.refl ok) r
    match ds, hg with
    | [.lst es], hg =>
      cases hg
      obtain ⟨a, vs, rfl, h1, h2⟩ := lst1 ok px
      exact ⟨_, call_len_seq, a, vs, rfl, .inl h1, by rw [h2.len]; exact fin (.int _)⟩
    | [.tup es], hg =>
      cases hg
      obtain ⟨v, rfl, p⟩ := px.one
      obtain ⟨a, vs, rfl, h1, h2⟩ := p.tup
      exact ⟨_, call_len_seq, a, vs, rfl, .inr (seqT ok.s h1), by rw [h2.len]; exact fin (.int _)⟩
    | [.str s], hg =>
      obtain ⟨g1, g2⟩ := guard_ok hg
      cases g2
      obtain ⟨v, rfl, p⟩ := px.one
      rw [p.str]
      exact ⟨_, call_len_str, s, rfl, by rw [sizeLn]; exact of_decide_eq_true g1, fin (.int _)⟩
  | min2 =>
    match ds, hg with
    | [.int i, .int j], hg =>
      cases hg
      obtain ⟨v, w, rfl, p1, p2⟩ := px.two
      rw [p1.int, p2.int]
      exact ⟨_, call_min2 hc, i, j, rfl, q _ _ _ (Stp.refl ok) (.int _)⟩
  | max2 =>
    match ds, hg with
    | [.int i, .int j], hg =>
      cases hg
      obtain ⟨v, w, rfl, p1, p2⟩ := px.two
      rw [p1.int, p2.int]
      exact ⟨_, call_max2 hc, i, j, rfl, q _ _ _ (Stp.refl ok) (.int _)⟩
  | sum =>
    match ds, hg with
    | [.lst es], hg =>
      obtain ⟨is, h1, h2⟩ := bind_okE hg
      cases h2
      obtain rfl := dInts_map (someR_ok h1)
      obtain ⟨a, vs, rfl, h3, h4⟩ := lst1 ok px
      obtain rfl := h4.ints
      exact ⟨_, cr_sum hc, a, is, rfl, h3, q _ _ _ (Stp.refl ok) (.int _)⟩
    | [.tup es], hg =>
      obtain ⟨is, h1, h2⟩ := bind_okE hg
      cases h2
      obtain rfl := dInts_map (someR_ok h1)
      obtain ⟨v, rfl, p⟩ := px.one
      obtain ⟨a, vs, rfl, h3, h4⟩ := p.tup
      obtain rfl := h4.ints
      exact ⟨_, cr_sumT hc, a, is, rfl, seqT ok.s h3, q _ _ _ (Stp.refl ok) (.int _)⟩
  | min1 =>
    match ds, hg with
    | [.lst es], hg =>
      by_cases tp : ∃ t r, es = .tup t :: r
      · obtain ⟨t0, r0, rfl⟩ := tp
        obtain ⟨ps, h1, h2⟩ := bind_okE (show mnP (.tup t0 :: r0) = .ok z from hg)
        have hp := dPrs_map (someR_ok h1)
        obtain ⟨a, vs, rfl, h3, h4⟩ := lst1 ok px
        rw [hp] at h4
        cases ps with
        | nil => cases h2
        | cons p r =>
          cases h2
          have h5 := h4
          cases h4 with
          | @cons v vs' _ _ hv hvs =>
            obtain ⟨z1, z2, z3⟩ := zip_rp hvs
            have n1 : ((vs'.zip (r.map prP)).map fun p => (p.1, p.2.py)).map Prod.fst = vs' := by rw [List.map_map]; exact z2
            have n2 : ((vs'.zip (r.map prP)).map fun p => (p.1, p.2.py)).map Prod.snd = (r.map prP).map D.py := by
              rw [List.map_map]
              show (vs'.zip (r.map prP)).map (D.py ∘ Prod.snd) = _
              rw [← List.map_map, z3]
            have n3 : (prP p).py :: (r.map prP).map D.py = ((p :: r).map prP).map D.py := rfl
            have md : PySem.W.minD (prP p).py ((r.map prP).map D.py) = (prP (minP p r)).py := by
              rw [List.map_map, prP_py, show (r.map (D.py ∘ prP)) = r.map fun p => PyData.tuple [.int p.1, .int p.2] from List.map_congr_left fun p _ => prP_py p, minD_prs, prP_py]
            refine ⟨_, cr_minD hc hu, a, (v, (prP p).py), (vs'.zip (r.map prP)).map fun p => (p.1, p.2.py), rfl, ?_, ?_, ?_, ?_, fun c hcm e => ?_⟩
            · rw [List.map_cons, n1]; exact h3
            · rw [List.map_cons, List.map_cons, n1, n2, n3, ← pyL_map]
              exact dpL_of (h5.mono ok.s) (prs_plain _)
            · rw [List.map_cons, n2, n3]
              exact prs_alike _
            · rw [List.map_cons, n2, n3]
              exact Nat.le_trans (prs_dep _) (by decide)
            · rw [n2, md] at e
              obtain ⟨k, k1, k2⟩ : ∃ k, Rp X.K G c.1 (prP k) ∧ c.2 = (prP k).py := by
                rcases List.mem_cons.mp hcm with m | m
                · rw [m]; exact ⟨p, hv, rfl⟩
                · obtain ⟨w, hw, rfl⟩ := List.mem_map.mp m
                  have w2 := (List.of_mem_zip (a := w.1) (b := w.2) hw).2
                  obtain ⟨k, _, hk⟩ := List.mem_map.mp w2
                  exact ⟨k, by rw [hk]; exact z1 w hw, by rw [hk]⟩
              rw [k2, prP_py, prP_py] at e
              have : k = minP p r := by
                simp only [PyData.tuple.injEq, List.cons.injEq, PyData.int.injEq, and_true] at e
                exact Prod.ext e.1 e.2
              rw [this] at k1
              exact q _ _ _ (Stp.refl ok) k1
      · have hg : mnI es = R.ok z := by
          rw [← hg]
          cases es with
          | nil => rfl
          | cons d r => cases d <;> first | rfl | exact absurd ⟨_, _, rfl⟩ tp
        obtain ⟨is, h1, h2⟩ := bind_okE hg
        obtain rfl := dInts_map (someR_ok h1)
        obtain ⟨a, vs, rfl, h3, h4⟩ := lst1 ok px
        obtain rfl := h4.ints
        cases is with
        | nil => cases h2
        | cons m r =>
          cases h2
          refine ⟨_, cr_min hc, a, m :: r, rfl, h3, by simp, fun k hm hle => ?_⟩
          obtain ⟨k1, k2⟩ := minI_spec m r
          have e : k = minI m r := Int.le_antisymm (hle _ k1) (k2 _ hm)
          rw [e]
          exact q _ _ _ (Stp.refl ok) (.int _)
  | max1 =>
    match ds, hg with
    | [.lst es], hg =>
      obtain ⟨is, h1, h2⟩ := bind_okE hg
      obtain rfl := dInts_map (someR_ok h1)
      obtain ⟨a, vs, rfl, h3, h4⟩ := lst1 ok px
      obtain rfl := h4.ints
      cases is with
      | nil => cases h2
      | cons m r =>
        cases h2
        refine ⟨_, cr_max hc, a, m :: r, rfl, h3, by simp, fun k hm hle => ?_⟩
        obtain ⟨k1, k2⟩ := maxI_spec m r
        have e : k = maxI m r := Int.le_antisymm (k2 _ hm) (hle _ k1)
        rw [e]
        exact q _ _ _ (Stp.refl ok) (.int _)
  | all =>
    match ds, hg with
    | [.lst es], hg =>
      obtain ⟨is, h1, h2⟩ := bind_okE hg
      cases h2
      obtain rfl := dBls_map (someR_ok h1)
      obtain ⟨a, vs, rfl, h3, h4⟩ := lst1 ok px
      obtain rfl := h4.bls
      exact ⟨_, cr_all hc, a, is, rfl, h3, q _ _ _ (Stp.refl ok) (.bl _)⟩
  | any =>
    match ds, hg with
    | [.lst es], hg =>
      obtain ⟨is, h1, h2⟩ := bind_okE hg
      cases h2
      obtain rfl := dBls_map (someR_ok h1)
      obtain ⟨a, vs, rfl, h3, h4⟩ := lst1 ok px
      obtain rfl := h4.bls
      exact ⟨_, cr_any hc, a, is, rfl, h3, q _ _ _ (Stp.refl ok) (.bl _)⟩
  | list =>
    match ds, hg with
    | [.lst es], hg =>
      cases hg
      obtain ⟨a, vs, rfl, h1, h2⟩ := lst1 ok px
      exact ⟨_, call_list_of, a, vs, rfl, .inl h1, newT ok (o := .lst _) trivial q (.lst h2)⟩
    | [.tup es], hg =>
      cases hg
      obtain ⟨v, rfl, p⟩ := px.one
      obtain ⟨a, vs, rfl, h1, h2⟩ := p.tup
      exact ⟨_, call_list_of, a, vs, rfl, .inr (seqT ok.s h1), newT ok (o := .lst _) trivial q (.lst h2)⟩
    | [.dcT ks es], hg =>
      cases hg
      obtain ⟨v, rfl, p⟩ := px.one
      obtain ⟨a, kvs, rfl, h1, rfl, h2⟩ := p.dcT ok.s
      exact ⟨_, call_list_dT hc, a, kvs, rfl, h1, fun p bs hp ik => newT ok (o := .lst _) trivial q (.lst (keys_rp ok ik)) p hp⟩
  | tuple =>
    match ds, hg with
    | [.lst es], hg =>
      cases hg
      obtain ⟨a, vs, rfl, h1, h2⟩ := lst1 ok px
      exact ⟨_, call_tuple_of, a, vs, rfl, .inl ⟨h1, newS ok q fun p hp => .tup (SqT.of upd_same) (h2.mono (same_upd hp))⟩⟩
    | [.tup es], hg =>
      cases hg
      obtain ⟨v, rfl, p⟩ := px.one
      obtain ⟨a, vs, rfl, h1, h2⟩ := p.tup
      exact ⟨_, call_tuple_of, a, vs, rfl, .inr ⟨seqT ok.s h1, q _ _ _ (Stp.refl ok) (.tup h1 h2)⟩⟩
  | sorted =>
    match ds, hg with
    | [.lst es], hg =>
      obtain ⟨a, vs, rfl, h3, h4⟩ := lst1 ok px
      cases he : dInts es with
      | some is =>
        simp only [biD, he] at hg
        cases hg
        obtain rfl := dInts_map he
        obtain rfl := h4.ints
        refine ⟨_, cr_sortedI, a, is, rfl, h3, fun ns' p pm sr hp => ?_⟩
        obtain rfl := sorted_uniq (pm.trans (sortI_perm is).symm) sr (sortI_srt is)
        exact newT ok (o := .lst _) trivial q (.lst (RpL.ofInts _)) p hp
      | none =>
        simp only [biD, he] at hg
        obtain ⟨g1, g2⟩ := guard_ok hg
        cases g2
        obtain ⟨o1, o2, o3, o4⟩ := sortOk_ok g1
        obtain ⟨z1, z2, z3⟩ := zip_rp h4
        have hm : ∀ p ∈ (vs.zip es).mergeSort (PySem.W.dataLe false fun b : V × D => b.2.py), Rp X.K G p.1 p.2 := fun p hp => z1 p ((List.mergeSort_perm _ _).mem_iff.mp hp)
        have m1 : ((vs.zip es).mergeSort (PySem.W.dataLe false fun b : V × D => b.2.py)).map Prod.snd = es.mergeSort (PySem.W.dataLe false D.py) := by
          have := List.map_mergeSort (r := PySem.W.dataLe false fun b : V × D => b.2.py) (s := PySem.W.dataLe false D.py) (f := Prod.snd) (l := vs.zip es) (fun _ _ _ _ => rfl)
          rw [this, z3]
        have m2 : (((vs.zip es).map fun p => (p.1, p.2.py)).mergeSort (PySem.W.dataLe false Prod.snd)).map Prod.fst = ((vs.zip es).mergeSort (PySem.W.dataLe false fun b : V × D => b.2.py)).map Prod.fst := by
          have := List.map_mergeSort (r := PySem.W.dataLe false fun b : V × D => b.2.py) (s := PySem.W.dataLe false (Prod.snd : V × PyData → PyData)) (f := fun p : V × D => (p.1, p.2.py)) (l := vs.zip es) (fun _ _ _ _ => rfl)
          rw [← this, List.map_map]; rfl
        have n1 : ((vs.zip es).map fun p => (p.1, p.2.py)).map Prod.fst = vs := by rw [List.map_map]; exact z2
        have n2 : ((vs.zip es).map fun p => (p.1, p.2.py)).map Prod.snd = es.map D.py := by
          rw [List.map_map]
          show (vs.zip es).map (D.py ∘ Prod.snd) = _
          rw [← List.map_map, z3]
        refine ⟨_, cr_sortedD hu, a, (vs.zip es).map fun p => (p.1, p.2.py), rfl, by rw [n1]; exact h3, by rw [n1, n2, ← pyL_map]; exact dpL_of (h4.mono ok.s) o1, by rw [n2]; exact o2, by rw [n2]; exact o3, fun b hb => ?_, ?_⟩
        · obtain ⟨p, hp, rfl⟩ := List.mem_map.mp hb
          exact o4 p.2 (List.of_mem_zip (a := p.1) (b := p.2) hp).2
        · rw [m2]
          refine newT ok (o := .lst _) trivial q (.lst ?_)
          rw [← m1]
          exact sorted_rp hm
  | int_ =>
    match ds, hg with
    | [.int i], hg =>
      cases hg
      obtain ⟨v, rfl, p⟩ := px.one
      rw [p.int]
      exact ⟨_, call_int1, .inl ⟨i, rfl, q _ _ _ (Stp.refl ok) (.int _)⟩⟩
    | [.bl i], hg =>
      cases hg
      obtain ⟨v, rfl, p⟩ := px.one
      rw [p.bl]
      exact ⟨_, call_int1, .inr ⟨i, rfl, q _ _ _ (Stp.refl ok) (.int _)⟩⟩
    | [.str s], hg =>
      obtain ⟨v, rfl, p⟩ := px.one
      rw [p.str]
      cases e : PySem.intText? s with
      | none => simp only [biD, e] at hg; cases hg
      | some n =>
        simp only [biD, e] at hg
        obtain ⟨g1, g2⟩ := guard_ok hg
        cases g2
        exact ⟨_, call_int_str, s, n, rfl, e, of_decide_eq_true g1, q _ _ _ (Stp.refl ok) (.int _)⟩
  | str_ =>
    match ds, hg with
    | [.int i], hg =>
      obtain ⟨g1, g2⟩ := guard_ok hg
      cases g2
      obtain ⟨v, rfl, p⟩ := px.one
      rw [p.int]
      exact ⟨_, call_str_int, i, rfl, of_decide_eq_true g1, q _ _ _ (Stp.refl ok) (.str _)⟩
theorem IxR.ex {ι : Type} {r : ι → R2} (h : ∀ i, IxR X (r i)) : IxR X (fun x y H Q => ∃ i, r i x y H Q) := by
  intro va sl pins s σ H x y v u Q I rx ry ⟨i, q⟩ hs
  exact h i va sl pins s σ H x y v u Q I rx ry q hs
theorem atI_map {vs : List V} {ds : List D} {i : Int} {d : D} {K : PySem.W.Frag} (l : RpL K G vs ds) (h : atI ds i = some d) : ∃ v, atI vs i = some v ∧ Rp K G v d := by
  unfold atI at h ⊢
  rw [l.len]
  cases e : ixN ds.length i with
  | none => rw [e] at h; cases h
  | some j =>
    rw [e] at h
    exact l.get h
theorem ix_dct (hu : X.A.units + 64 < cLine) : IxR X (fun x y H Q => ∃ a v, x = .ref a ∧ DGet H a y (some v) ∧ Q v H) := by
  intro value slice pins s σ H x y v u Q I rx ry h hs
  obtain ⟨a, z, rfl, g, q⟩ := h
  cases rx
  have hT := dict_typeIs I g
  unfold subscriptTail
  refine wpAny_bind ?_
  rw [getitemInPython_of_ne hT.not_modules]
  refine wpAny_bind (wpAny_specialOf hT PySem.F.slot_dict_getitem.lookup ?_)
  have fin : wpAny (model X.prog X.w) X.A (subscripted slice false (.ref a) u) (fun r s₃ => wpAny (model X.prog X.w) X.A (letTemporaryGo value (.ref a) r >>= fun _ => pure r) (EP X pins σ Q) X.xe s₃) X.xe s := by
    rw [hs]
    exact wpAny_operating (wpAny_mono (d_getItem (E := X.xe) (by omega) I g ry (Q := fun r s' => EP X pins σ Q r s') fun w' s' I' rw' => ⟨z, H, I', rw', q⟩) (fun r s₃ h₃ => wpAny_bind (wpAny_letTemporaryGo (wpAny_pure h₃))) fun _ _ x => x)
  first
    | exact wpAny_pure (wpAny_bind fin)
    | exact wpAny_bind (wpAny_pure (wpAny_bind fin))
    | exact wpAny_bind fin
theorem ixD_ok (hu : X.A.units + 64 < cLine) : ∃ r : R2, IxR X r ∧ ∀ (G H : Hp) (x y : V) (d e z : D) (Q : VK), Ok2 G H → PB X.K G H x d → PB X.K G H y e → ixD d e = .ok z → (∀ v H' G', Stp G H G' H' → Rp X.K G' v z → Q v H') → r x y H Q := by
  refine ⟨fun x y H Q => ∃ r : { r : R2 // IxR X r }, r.1 x y H Q, IxR.ex fun i => i.2, fun G H x y d e z Q ok px py hg q => ?_⟩
  have fin : ∀ {v : V}, Rp X.K G v z → Q v H := fun r => q _ _ _ (Stp.refl ok) r
  match d, e, hg with
  | .lst ds, .int i, hg =>
    cases h : atI ds i with
    | none => simp only [ixD, h] at hg; cases hg
    | some t =>
      simp only [ixD, h] at hg; cases hg
      obtain ⟨a, vs, rfl, h1, h2⟩ := px.lst ok.s
      obtain ⟨v, h3, h4⟩ := atI_map h2 h
      exact ⟨⟨_, ix_list⟩, a, vs, i, v, rfl, py.int, h1, h3, fin h4⟩
  | .tup ds, .int i, hg =>
    cases h : atI ds i with
    | none => simp only [ixD, h] at hg; cases hg
    | some t =>
      simp only [ixD, h] at hg; cases hg
      obtain ⟨a, vs, rfl, h1, h2⟩ := px.tup
      obtain ⟨v, h3, h4⟩ := atI_map h2 h
      exact ⟨⟨_, ix_tup⟩, a, vs, i, v, rfl, py.int, seqT ok.s h1, h3, fin h4⟩
  | .str s, .int i, hg =>
    obtain ⟨g1, g2⟩ := guard_ok hg
    cases h : atI s.cps.toList i with
    | none => rw [h] at g2; cases g2
    | some t =>
      rw [h] at g2; cases g2
      exact ⟨⟨_, ix_str⟩, s, i, t, px.str, py.int, by rw [sizeLn]; exact of_decide_eq_true g1, h, fin (.str _)⟩
  | .dct f ks ds, d, hg =>
    cases h : (keyD d).bind (lkD ks ds) with
    | none => rw [ixD, h] at hg; cases hg
    | some t =>
      rw [ixD, h] at hg; cases hg
      obtain ⟨k, k1, k2⟩ := Option.bind_eq_some_iff.mp h
      obtain ⟨a, o, rfl, g, i1, _⟩ := dget_of ok.s px py k1
      obtain ⟨v, rfl, r⟩ := i1 _ k2
      exact ⟨⟨_, ix_dct hu⟩, a, v, rfl, g, fin r⟩
theorem SlR.ex {ι : Type} {r : ι → V → Option Int → Option Int → Hp → VK → Prop} (h : ∀ i, SlR X (r i)) : SlR X (fun x lo hi H Q => ∃ i, r i x lo hi H Q) := by
  intro pins s σ H x v vl vu lo hi sl Q I rx hs pl pu ⟨i, q⟩
  exact h i pins s σ H x v vl vu lo hi sl Q I rx hs pl pu q
theorem cutL_rp {K : PySem.W.Frag} {vs : List V} {ds : List D} (l : RpL K G vs ds) (lo hi : Option Int) : RpL K G (cutV vs lo hi) (cutL ds lo hi) := by
  unfold cutV cutL
  rw [l.len]
  exact (l.drop _).take _
theorem slD_ok : ∃ r : V → Option Int → Option Int → Hp → VK → Prop, SlR X r ∧ ∀ (G H : Hp) (x : V) (lo hi : Option Int) (d z : D) (Q : VK), Ok2 G H → PB X.K G H x d → slD d lo hi = .ok z → (∀ v H' G', Stp G H G' H' → Rp X.K G' v z → Q v H') → r x lo hi H Q := by
  refine ⟨fun x lo hi H Q => ∃ r : { r : V → Option Int → Option Int → Hp → VK → Prop // SlR X r }, r.1 x lo hi H Q, SlR.ex fun i => i.2, fun G H x lo hi d z Q ok px hg q => ?_⟩
  match d, hg with
  | .lst ds, hg =>
    cases hg
    obtain ⟨a, vs, rfl, h1, h2⟩ := px.lst ok.s
    exact ⟨⟨_, sl_list⟩, a, vs, rfl, h1, newS ok q fun p hp => .lst (SqL.of upd_same) ((cutL_rp h2 lo hi).mono (same_upd hp))⟩
  | .tup ds, hg =>
    cases hg
    obtain ⟨a, vs, rfl, h1, h2⟩ := px.tup
    refine ⟨⟨_, sl_tupA⟩, a, vs, rfl, seqT ok.s h1, fun hw => ?_, fun _ => newS ok q fun p hp => .tup (SqT.of upd_same) ((cutL_rp h2 lo hi).mono (same_upd hp))⟩
    refine q _ _ _ (Stp.refl ok) ?_
    have e : cutL ds lo hi = ds := by
      have hl := h2.len
      unfold cutL
      rw [← hl, hw.1, hw.2]
      simp [hl]
    rw [e]
    exact .tup h1 h2
  | .str z, hg =>
    obtain ⟨g1, g2⟩ := guard_ok hg
    cases g2
    exact ⟨⟨_, sl_str⟩, z, px.str, by rw [sizeLn]; exact of_decide_eq_true g1, q _ _ _ (Stp.refl ok) (.str _)⟩
def Ty.nm : Ty → Str
  | .int => "int" | .bool => "bool" | .str => "str" | .tuple => "tuple" | .list => "list"
def Ty.id : Ty → String
  | .int => "int" | .bool => "bool" | .str => "str" | .tuple => "tuple" | .list => "list"
/-- the type of a datum, None for what is not asked -/
def tyD : D → String
  | .non => "NoneType" | .bl _ => "bool" | .int _ => "int" | .str _ => "str" | .tup _ => "tuple" | .lst _ => "list" | .dct _ _ _ => "dict" | .dcT _ _ => "dict" | .obj _ _ => "object"
theorem ty_of {v : V} {d : D} {K : PySem.W.Frag} (h : Rp K H v d) (hd : (∀ f ks vs, d ≠ .dct f ks vs) ∧ (∀ ks vs, d ≠ .dcT ks vs) ∧ ∀ c fs, d ≠ .obj c fs) : TyX K H v (.type (tyD d)) := by
  cases h with
  | non => exact .base .non
  | bl b => exact .base (.bl b)
  | int b => exact .base (.int b)
  | str b => exact .base (.str b)
  | lst h l =>
    rcases h with (h | ⟨o, h⟩) | ⟨o, its, n, h1, h2, h3⟩
    · exact .base (.lst h)
    · exact .base (.frz h)
    · exact .kList h1 h2
  | tup h l =>
    rcases h with (h | ⟨o, h⟩) | ⟨o, its, n, h1, h2, h3⟩
    · exact .base (.tup h)
    · exact .fTuple h
    · exact .kTuple h1 h2
  | dct h l => exact absurd rfl (hd.1 _ _ _)
  | dctL h l => exact absurd rfl (hd.1 _ _ _)
  | dcT h l => exact absurd rfl (hd.2.1 _ _)
  | obj _ _ _ l => exact absurd rfl (hd.2.2 _ _)
end
end Den
namespace Den
open PySem PySem.Spec PyProof.Rows L2
/-- a module's constant -/
inductive GC where
  | int (i : Int)
  | str (s : Str)
  | wds (ws : List Str)
  deriving DecidableEq
structure Tbl where
  N : List Str
  own : List Nat
  fns : List (Nat × Str × Nat × Bool)
  cs : List (Str × GC)
  bt : List Str
  /-- methods by number: arity with self, fresh; classes that are made: name, arity; classes asked by isinstance -/
  mf : List (Nat × Nat × Bool) := []
  mks : List (Nat × Str × Nat × Bool) := []
  isc : List Nat := []
def Tbl.isOwn (T : Tbl) (i : Nat) : Bool := T.own.contains i
def visB (sc : Scope) (x : Str) : Bool := match sc.names.lookup x with
  | some .local => true
  | some .cell => true
  | some .free => true
  | _ => false
/-- a name that may be stored: a local one; in a def's own body (d) one that is captured too -/
def locB (d : Bool) (sc : Scope) (x : Str) : Bool := match sc.names.lookup x with
  | some .local => true
  | some .cell => d
  | _ => false
def glB (sc : Scope) (x : Str) : Bool := match sc.names.lookup x with
  | some .globalImplicit => true
  | _ => false
def nmB (x : Str) : Bool := !(x == ("__debug__" : Str)) && !(x == ("__classdict__" : Str)) && decide (x ≠ "__name__")
def plE : Expr → Bool
  | .Starred _ _ => false
  | .Set _ _ _ => false
  | .Slice _ _ _ _ => false
  | _ => true
def blt (T : Tbl) (sc : Scope) (x : Str) : Bool := glB sc x && nmB x && decide (x ∈ T.bt)
def kd (T : Tbl) : Ex → Kd
  | .var i => if T.isOwn i then .B else .S
  | .lst _ => .T
  | .comp _ _ _ _ => .T
  | .compIf _ _ _ _ _ => .T
  | .sset _ => .T
  | .lzip _ => .T
  | .lrng _ _ => .T
  | .lrev _ => .T
  | .cat _ _ => .T
  | .call0 f => match T.fns.lookup f with
    | some (_, _, true) => .T
    | _ => .S
  | .bi b _ => b.kd
  | .dnew _ => .T
  | .tm m _ _ => match m with
    | .split => .T
    | _ => .S
  | .repL _ _ => .T
  | .call f _ => match T.fns.lookup f with
    | some (_, _, true) => .T
    | _ => .S
  | .meth b m _ _ => if b then .S else match T.mf.lookup m with
    | some (_, true) => .T
    | _ => .S
  | .dcp _ => .T
  | .slO _ _ => .T
  | .dlitO _ _ => .T
  | .pickL _ _ => .T
  | _ => .S
def nB (T : Tbl) (x : Ex) : Bool := match kd T x with
  | .B => false
  | _ => true
def isS (T : Tbl) (x : Ex) : Bool := match kd T x with
  | .S => true
  | _ => false
def mNames (T : Tbl) (d : Bool) (sc : Scope) : List Nat → List Expr → Bool
  | [], [] => true
  | i :: is, .Name x _ :: es => decide (T.N[i]? = some x) && locB d sc x && !T.isOwn i && mNames T d sc is es
  | _, _ => false
def mTg (T : Tbl) (d : Bool) (sc : Scope) : Tg → Expr → Bool
  | .one i, .Name x _ => decide (T.N[i]? = some x) && locB d sc x && !T.isOwn i
  | .many is, .Tuple es _ _ => mNames T d sc is es
  | .nest is j, .Tuple [.Tuple es _ _, .Name x _] _ _ => mNames T d sc is es && decide (T.N[j]? = some x) && locB d sc x && !T.isOwn j
  | _, _ => false
def ownP (T : Tbl) (own : List Nat) : List (Str × Nat) := own.map fun i => (T.N.getD i "", i)
def tgIn (own : List Nat) : Tg → Bool
  | .one i => own.contains i
  | .many is => is.all own.contains
  | .nest is j => is.all own.contains && own.contains j
/-- no super() -/
def abB : Expr → Bool
  | .Call (.Name _ _) [] [] _ => false
  | _ => true
def Tm.nm : Tm → Str
  | .split => "split" | .join => "join" | .part => "partition" | .starts => "startswith" | .index => "index"
/-- no conditional expression (as a test it is read in its own way) -/
def ntI : Expr → Bool
  | .IfExp _ _ _ _ => false
  | _ => true
def seeB (T : Tbl) (sc : Scope) (i : Nat) (x : Str) : Bool := decide (T.N[i]? = some x) && visB sc x && nmB x
def isTup : Expr → Bool
  | .Tuple _ _ _ => true
  | _ => false
/-- list displays all -/
def rowsE : Exs → Bool
  | .nil => true
  | .cons (.lst _) r => rowsE r
  | .cons _ _ => false
mutual
def mE (T : Tbl) : Ex → Scope → Expr → Bool
  | .var i, sc, e => match e with
    | .Name x _ => decide (T.N[i]? = some x) && visB sc x && nmB x
    | _ => false
  | .cst d, _, e => match e with
    | .Constant c _ _ => match d, c with
      | .non, .none => true
      | .bl b, .bool k => decide (b = k)
      | .int i, .int j => decide (i = j)
      | .str s, .str t => decide (s = t)
      | _, _ => false
    | _ => false
  | .gint y i, sc, e => match e with
    | .Name x _ => decide (x = y) && glB sc x && nmB x && decide ((x, GC.int i) ∈ T.cs)
    | _ => false
  | .gstr y s, sc, e => match e with
    | .Name x _ => decide (x = y) && glB sc x && nmB x && decide ((x, GC.str s) ∈ T.cs)
    | _ => false
  | .gwds y ws, sc, e => match e with
    | .Name x _ => decide (x = y) && glB sc x && nmB x && decide ((x, GC.wds ws) ∈ T.cs)
    | _ => false
  | .bin o a b, sc, e => match e with
    | .BinOp l op r _ => decide (op = o.py) && mE T a sc l && mE T b sc r
    | _ => false
  | .neg a, sc, e => match e with
    | .UnaryOp op l _ => decide (op = .USub) && mE T a sc l
    | _ => false
  | .cmp o a b, sc, e => match e with
    | .Compare l [op] [r] _ => decide (op = o.py) && mE T a sc l && mE T b sc r && !behindInMarks op r
    | _ => false
  | .isN a, sc, e => match e with
    | .Compare l [op] [.Constant .none _ _] _ => decide (op = .Is) && mE T a sc l
    | _ => false
  | .notN a, sc, e => match e with
    | .Compare l [op] [.Constant .none _ _] _ => decide (op = .IsNot) && mE T a sc l
    | _ => false
  | .chain o o' a b c, sc, e => match e with
    | .Compare l [op, op'] [m, r] _ => decide (op = o.py) && decide (op' = o'.py) && mE T a sc l && mE T b sc m && mE T c sc r && !lastMarks [op, op'] [m, r]
    | _ => false
  | .and_ a b, sc, e => match e with
    | .BoolOp .And (x :: y :: r) pos => mE T a sc x && (match r with | [] => mE T b sc y | z :: r' => mE T b sc (.BoolOp .And (y :: z :: r') pos)) && ntI x && ntI y
    | _ => false
  | .or_ a b, sc, e => match e with
    | .BoolOp .Or (x :: y :: r) pos => mE T a sc x && (match r with | [] => mE T b sc y | z :: r' => mE T b sc (.BoolOp .Or (y :: z :: r') pos)) && ntI x && ntI y
    | _ => false
  | .not_ a, sc, e => match e with
    | .UnaryOp op l _ => decide (op = .Not) && mE T a sc l && ntI l
    | _ => false
  | .ite c a b, sc, e => match e with
    | .IfExp t l r _ => mE T c sc t && ntI t && mE T a sc l && mE T b sc r && nB T a && nB T b
    | _ => false
  | .tup es, sc, e => match e with
    | .Tuple l _ _ => mEs T true es sc l && decide (l.length ≤ Line)
    | _ => false
  | .lst es, sc, e => match e with
    | .List l _ => mEs T true es sc l && decide (l.length ≤ Line)
    | _ => false
  | .ix a b, sc, e => match e with
    | .Subscript l r _ => mE T a sc l && mE T b sc r && plE r
    | _ => false
  | .slF a lo, sc, e => match e with
    | .Subscript l (.Slice (some r) none none _) _ => mE T a sc l && mE T lo sc r
    | _ => false
  | .slT a hi, sc, e => match e with
    | .Subscript l (.Slice none (some r) none _) _ => mE T a sc l && mE T hi sc r
    | _ => false
  | .slB a lo hi, sc, e => match e with
    | .Subscript l (.Slice (some m) (some r) none _) _ => mE T a sc l && mE T lo sc m && mE T hi sc r
    | _ => false
  | .call f es, sc, e => match e with
    | .Call (.Name x _) (l0 :: l1) [] _ => (match T.fns.lookup f with | some (y, n, _) => decide (x = y) && decide ((l0 :: l1).length = n) | none => false) && glB sc x && nmB x && mEs T true es sc (l0 :: l1)
    | _ => false
  | .callB f es, sc, e => match e with
    | .Call (.Name x _) (l0 :: l1) [] _ => (match T.fns.lookup f with | some (y, n, _) => decide (x = y) && decide ((l0 :: l1).length = n) | none => false) && glB sc x && nmB x && mEs T false es sc (l0 :: l1)
    | _ => false
  | .bi b es, sc, e => match e with
    | .Call (.Name x _) (l :: ls) [] _ => decide (x = b.nm) && blt T sc x && mEs T false es sc (l :: ls)
    | _ => false
  | .isi a t, sc, e => match e with
    | .Call (.Name x _) [l, .Name y _] [] _ => decide (x = "isinstance") && blt T sc x && decide (y = t.nm) && blt T sc y && mE T a sc l && plE l
    | _ => false
  | .comp it tg own a, sc, e => match e with
    | .ListComp l [⟨g, i, ifs, k⟩] scope _ => (match ifs with | [] => true | _ => false) && decide (k = 0) && mI T it sc g i && plE i && mTg T false (relS scope sc) tg g && tgIn own tg && own.all (fun i => !T.isOwn i) && blkC T.N sc scope (ownP T own) &&
        mE T a (relS scope sc) l && nB T a
    | _ => false
  | .compIf it tg own c a, sc, e => match e with
    | .ListComp l [⟨g, i, ifs, k⟩] scope _ => (match ifs with | [t] => mE T c (relS scope sc) t && ntI t | _ => false) && decide (k = 0) && mI T it sc g i && plE i && mTg T false (relS scope sc) tg g && tgIn own tg && own.all (fun i => !T.isOwn i) && blkC T.N sc scope (ownP T own) &&
        mE T a (relS scope sc) l && nB T a
    | _ => false
  | .sset a, sc, e => match e with
    | .Call (.Name x _) [.Call (.Name y _) [l] [] _] [] _ => decide (x = "sorted") && blt T sc x && decide (y = "set") && blt T sc y && mE T a sc l && plE l
    | _ => false
  | .lset a, sc, e => match e with
    | .Call (.Name x _) [.Call (.Name y _) [l] [] _] [] _ => decide (x = "len") && blt T sc x && decide (y = "set") && blt T sc y && mE T a sc l && plE l
    | _ => false
  | .lzip es, sc, e => match e with
    | .Call (.Name x _) [.Call (.Name y _) [l1, l2, l3, l4] [] _] [] _ => decide (x = "list") && blt T sc x && decide (y = "zip") && blt T sc y && mEs T false es sc [l1, l2, l3, l4]
    | _ => false
  | .lrng a b, sc, e => match e with
    | .Call (.Name x _) [.Call (.Name y _) [l1, l2] [] _] [] _ => decide (x = "list") && blt T sc x && decide (y = "range") && blt T sc y && mE T a sc l1 && plE l1 && mE T b sc l2 && plE l2
    | _ => false
  | .lrev a, sc, e => match e with
    | .Call (.Name x _) [.Call (.Name y _) [l] [] _] [] _ => decide (x = "list") && blt T sc x && decide (y = "reversed") && blt T sc y && mE T a sc l && plE l
    | _ => false
  | .dmin mx a, sc, e => match e with
    | .Call (.Name x _) [l] [⟨some k, .Constant .none _ _, _⟩] _ => decide (x = if mx then "max" else "min") && blt T sc x && decide (k = "default") && mE T a sc l && plE l
    | _ => false
  | .cat a b, sc, e => match e with
    | .BinOp l op r _ => decide (op = .Add) && mE T a sc l && mE T b sc r
    | _ => false
  | .call0 f, sc, e => match e with
    | .Call (.Name x _) [] [] _ => (match T.fns.lookup f with | some (y, n, _) => decide (x = y) && decide (n = 0) | none => false) && glB sc x && nmB x
    | _ => false
  | .dnew _, sc, e => match e with
    | .Dict [] [] _ => true
    | _ => false
  | .repL es n, sc, e => match e with
    | .BinOp (.List l _) op (.Constant (.int i) _ _) _ => decide (op = .Mult) && decide (i = (n : Int)) && mEs T true es sc l && decide (l.length ≤ Line)
    | _ => false
  | .dlit k v, sc, e => match e with
    | .Dict [some l] [r] _ => mE T k sc l && mE T v sc r && nB T v
    | _ => false
  | .tm m a b, sc, e => match e with
    | .Call (.Attribute o nm ap) [l] [] cp => decide (nm = m.nm) && (ap.endLine == cp.line) && abB o && mE T a sc o && mE T b sc l && plE l
    | _ => false
  | .dget1 i k, sc, e => match e with
    | .Call (.Attribute (.Name x _) m ap) [l] [] cp => decide (m = "get") && (ap.endLine == cp.line) && seeB T sc i x && mE T k sc l && plE l
    | _ => false
  | .dget2 i k z, sc, e => match e with
    | .Call (.Attribute (.Name x _) m ap) [l, r] [] cp => decide (m = "get") && (ap.endLine == cp.line) && seeB T sc i x && mE T k sc l && plE l && mE T z sc r && plE r && nB T z
    | _ => false
  | .fld a f, sc, e => match e with
    | .Attribute l g _ => decide (g = f) && abB l && mE T a sc l
    | _ => false
  | .meth b m a es, sc, e => match e with
    | .Call (.Attribute o g ap) l [] cp => (match T.mf.lookup m with | some (n, _) => decide (l.length + 1 = n) | none => false) && decide (g = mNm m) && (ap.endLine == cp.line) && abB o && isS T a && mE T a sc o && mEs T (!b) es sc l && decide (l.length ≤ 20)
    | _ => false
  | .make c es, sc, e => match e with
    | .Call (.Name x _) l [] _ => (match T.mks.lookup c with | some (y, n, b) => decide (x = y) && decide (l.length = n) && !b | none => false) && glB sc x && nmB x && mEs T true es sc l
    | _ => false
  | .isc a c, sc, e => match e with
    | .Call (.Name x _) [l, .Name y _] [] _ => decide (x = "isinstance") && blt T sc x && decide (y = clsNm c) && decide (c ∈ T.isc) && glB sc y && nmB y && mE T a sc l && plE l
    | _ => false
  | .dcp a, sc, e => match e with
    | .Call (.Name x _) [l] [] _ => decide (x = "dict") && blt T sc x && mE T a sc l && plE l
    | _ => false
  | .slO a hi, sc, e => match e with
    | .Subscript l (.Slice none (some r) none _) _ => mE T a sc l && mE T hi sc r
    | _ => false
  | .dlitO k v, sc, e => match e with
    | .Dict [some l] [r] _ => mE T k sc l && mE T v sc r && nB T v
    | _ => false
  | .pickL rs i, sc, e => match e with
    | .Subscript (.List l _) r _ => mEs T false rs sc l && rowsE rs && decide (l.length ≤ Line) && mE T i sc r && plE r
    | _ => false
  | .makeB c i, sc, e => match e with
    | .Call (.Name x _) [.Name y _] [] _ => (match T.mks.lookup c with | some (z, n, b) => decide (x = z) && decide (n = 1) && b | none => false) && glB sc x && nmB x && seeB T sc i y && T.isOwn i
    | _ => false
  | .deq a b, sc, e => match e with
    | .Compare l [op] [r] _ => decide (op = .Eq) && mE T a sc l && mE T b sc r && !behindInMarks op r
    | _ => false
def mEs (T : Tbl) (s : Bool) : Exs → Scope → List Expr → Bool
  | .nil, _, l => match l with
    | [] => true
    | _ => false
  | .cons a r, sc, l => match l with
    | e :: es => mE T a sc e && plE e && (!s || nB T a) && mEs T s r sc es
    | _ => false
def mI (T : Tbl) : Itr → Scope → Expr → Expr → Bool
  | .seq a, sc, _, e => mE T a sc e
  | .rng1 a, sc, _, e => match e with
    | .Call (.Name x _) [l] [] _ => decide (x = "range") && blt T sc x && mE T a sc l && plE l
    | _ => false
  | .rng2 a b, sc, _, e => match e with
    | .Call (.Name x _) [l, m] [] _ => decide (x = "range") && blt T sc x && mE T a sc l && plE l && mE T b sc m && plE m
    | _ => false
  | .rng3 a b c, sc, _, e => match e with
    | .Call (.Name x _) [l, m, r] [] _ => decide (x = "range") && blt T sc x && mE T a sc l && plE l && mE T b sc m && plE m && mE T c sc r && plE r
    | _ => false
  | .enum a, sc, g, e => match e with
    | .Call (.Name x _) [l] [] _ => decide (x = "enumerate") && blt T sc x && mE T a sc l && plE l && isTup g
    | _ => false
  | .zip a b, sc, g, e => match e with
    | .Call (.Name x _) [l, m] [] _ => decide (x = "zip") && blt T sc x && mE T a sc l && plE l && mE T b sc m && plE m && isTup g
    | _ => false
  | .rev a, sc, _, e => match e with
    | .Call (.Name x _) [l] [] _ => decide (x = "reversed") && blt T sc x && mE T a sc l && plE l
    | _ => false
  | .its i, sc, g, e => match e with
    | .Call (.Attribute (.Name x _) m ap) [] [] cp => decide (m = "items") && (ap.endLine == cp.line) && seeB T sc i x && isTup g && !T.isOwn i
    | _ => false
end
section
variable {X : Cx} {e : Expr}
theorem plE_star {es : List Expr} {env : PySem.Env} (h : plE e = true) : starEach (e :: es) env = (false, eval e env) :: starEach es env := by
  cases e <;> first | rfl | (cases h)
theorem plE_set {env : PySem.Env} (h : plE e = true) : ∀ x, foldedSetIterable e env x = pure x := by
  intro x
  cases e <;> first | rfl | (cases h)
theorem plE_ix (h : plE e = true) : PlainIx e := by
  intro o i
  cases e <;> first | rfl | (cases h)
theorem any_back {pos : Pos} : ∀ {es : List Expr} {env : PySem.Env}, (∀ e ∈ es, plE e = true) → (backTo pos (starEach es env)).any (·.1) = false
  | [], _, _ => rfl
  | e :: es, env, h => by
    rw [plE_star (h e (by simp))]
    unfold backTo
    rw [List.map_cons, List.any_cons]
    have := any_back (pos := pos) (es := es) (env := env) fun x hx => h x (List.mem_cons_of_mem _ hx)
    unfold backTo at this
    rw [this]
    rfl
theorem visB_ok {sc : Scope} {x : Str} (h : visB sc x = true) : Vis sc x := by
  unfold visB at h
  unfold Vis
  split at h <;> simp_all
theorem locB_ok {d : Bool} {sc : Scope} {x : Str} (h : locB d sc x = true) : L2.Loc sc x ∧ (d = false → sc.names.lookup x = some .local) := by
  unfold locB at h
  unfold L2.Loc
  split at h
  · rename_i k
    exact ⟨Or.inl k, fun _ => k⟩
  · rename_i k
    subst h
    exact ⟨.inr k, fun q => nomatch q⟩
  · cases h
theorem glB_ok {sc : Scope} {x : Str} (h : glB sc x = true) (hs : X.env.scope = sc) : Gl X x := by
  unfold glB at h
  unfold Gl PySem.Env.kindOf
  rw [hs]
  split at h <;> simp_all
theorem nmB_ok {x : Str} (h : nmB x = true) : (x == ("__debug__" : Str)) = false ∧ (x == ("__classdict__" : Str)) = false ∧ x ≠ "__name__" := by
  unfold nmB at h
  rw [Bool.and_eq_true, Bool.and_eq_true, decide_eq_true_eq] at h
  refine ⟨?_, ?_, h.2⟩
  · have := h.1.1; cases q : (x == ("__debug__" : Str)) <;> simp_all
  · have := h.1.2; cases q : (x == ("__classdict__" : Str)) <;> simp_all
end
end Den
namespace Den
open PySem PySem.Spec PyProof.Rows L2
/-- in the air of X, held by the frame where the code runs (a block's names lie elsewhere) -/
def XH (X : Cx) (W : WX) (u : Value) (s' : Shared) : Prop :=
  ∃ (a : Addr) (B : Heap) (sI : Shared) (pins : List (Addr × Obj)) (σ : L2.St) (H : Hp) (cls : Value) (d : Option Addr) (L : Addr),
    u = .ref a ∧ X.env.frame = some L ∧ Inv X pins σ H sI ∧ (∀ b o, sI.heap.get? b = some o → b ∉ frs X.stack → B.get? b = some o) ∧ sI.heap.UpToSlots s'.heap ∧
      HandSPX.HeldZ B X.stack a (Zc cls d) L s'.heap ∧ H a = none ∧ s'.os = sI.os ∧ AllBare s'.gens ∧ W cls d σ H
/-- where a def's own code runs both are one -/
theorem XH.def_ {X : Cx} {W : WX} {u : Value} {s' : Shared} (hf : X.env.frame = some X.env.locals) (x : XH X W u s') : XE X W u s' := by
  obtain ⟨a, B, sI, pins, σ, H, cls, d, L, e, hL, I, nb, up, hh, na, os, ag, w⟩ := x
  rw [hf] at hL; cases hL
  exact ⟨a, B, sI, pins, σ, H, cls, d, e, I, nb, up, .inr (.inr hh), na, os, ag, w⟩
/-- the same state of a context that wants something else of exceptions -/
theorem Inv.wants {X : Cx} {pins : List (Addr × Obj)} {σ : L2.St} {H : Hp} {s : Shared} (E : Value → Shared → Prop) (I : Inv X pins σ H s) : Inv { X with xe := E } pins σ H s :=
  ⟨⟨I.ok.mod, I.ok.kind, I.ok.glob, I.ok.blt, I.ok.above, I.ok.inj, I.ok.has, I.ok.cab, I.ok.hd, I.ok.frames, I.ok.stk, I.ok.exf, I.ok.bs, I.ok.bsz, I.ok.noex, I.ok.exfs, I.ok.funs, I.ok.frf⟩, I.os, I.bare, I.base, I.loc, I.cell, I.free, I.freeC, I.pin, I.hok, I.len⟩
theorem Inv.unwants {X : Cx} {pins : List (Addr × Obj)} {σ : L2.St} {H : Hp} {s : Shared} {E : Value → Shared → Prop} (I : Inv { X with xe := E } pins σ H s) : Inv X pins σ H s :=
  ⟨⟨I.ok.mod, I.ok.kind, I.ok.glob, I.ok.blt, I.ok.above, I.ok.inj, I.ok.has, I.ok.cab, I.ok.hd, I.ok.frames, I.ok.stk, I.ok.exf, I.ok.bs, I.ok.bsz, I.ok.noex, I.ok.exfs, I.ok.funs, I.ok.frf⟩, I.os, I.bare, I.base, I.loc, I.cell, I.free, I.freeC, I.pin, I.hok, I.len⟩
/-- all that a block lets out -/
def Air (Y : Cx) (W : WX) (u : Value) (s' : Shared) : Prop := XE Y W u s' ∨ XH Y W u s'
abbrev Cx.blkX (X : Cx) (s : Shared) (H : Hp) (scope : Scope) (cenv : PySem.Env) (fp : List Addr) (W : WX) : Cx := { X.blk s H scope cenv fp with xe := Air (X.blk s H scope cenv fp) W }
theorem Air.takes {X : Cx} {s : Shared} {H : Hp} {scope : Scope} {cenv : PySem.Env} {fp : List Addr} {W : WX} : Takes (Cx.blkX X s H scope cenv fp W) W := fun u s' ⟨a, B, sI, pins, σ, H, cls, d, e, I, r⟩ => .inl ⟨a, B, sI, pins, σ, H, cls, d, e, Inv.unwants I, r⟩
theorem Air.takesH {X : Cx} {s : Shared} {H : Hp} {scope : Scope} {cenv : PySem.Env} {fp : List Addr} {W : WX} : ∀ u s', XH (Cx.blkX X s H scope cenv fp W) W u s' → (Cx.blkX X s H scope cenv fp W).xe u s' := fun u s' ⟨a, B, sI, pins, σ, H, cls, d, L, e, f, I, r⟩ => .inr ⟨a, B, sI, pins, σ, H, cls, d, L, e, f, Inv.unwants I, r⟩
section
variable {M : Model} {A : Around} {E : Value → Shared → Prop} {s : Shared} {Q : Unit → Shared → Prop} {B : Heap} {a L L2 : Addr} {Z : Obj → Prop} {e0 ce : PySem.Env} {o0 : List PySem.Env}
/-- a flight that another frame's mark stands on: the mark goes, this frame is noted -/
theorem note_other (hZ : HandSPX.Steady Z) (hfr : A.frames = some (e0 :: o0)) (hf : e0.frame = some L) (hne : L2 ≠ L) (x : HandSPX.HeldZ B (e0 :: o0) a Z L2 s.heap)
    (k : ∀ h', HandSPX.HeldZ B (e0 :: o0) a Z L h' → s.heap.UpToSlots h' → Q () { s with heap := h' }) : wpAny M A (noteFrame (.ref a) e0) Q E s := by
  obtain ⟨b1, b2, b3, oe, vs, T, oT, ts, g1, g2, g3, g4, g5, g6, g7, g8, g9⟩ := x
  have ne : ¬ ((rawInt L2 == rawInt L) = true) := fun q => hne (Int.ofNat_inj.mp (by simpa [rawInt] using q))
  unfold noteFrame
  simp only [hf]
  refine wpAny_bind (wpAny_field g1 g3 g4 ?_)
  rw [if_pos (by simp)]
  refine wpAny_bind (wpAny_field g7 g8 g9 ?_)
  rw [if_neg ne]
  refine wpAny_bind (wpAny_setField g7 g8 (Array.getElem?_eq_some_iff.mp g9).1 ?_)
  have oth : ∀ b, b ≠ T → (s.heap.update T (Obj.mapFields (·.setIfInBounds 3 Value.none))).get? b = s.heap.get? b := fun b hb => Heap.get?_update_other _ _ (Ne.symm hb)
  have nrec : ∀ b o, s.heap.get? b = some o → (∀ vs, o.data ≠ .fields vs) → b ≠ T := fun b o hb hnf q => by
    subst q
    rw [g7] at hb; cases hb
    exact hnf ts g8
  refine HandSPX.wpAny_entryZ hZ hfr (b3.of_keeps fun b o hb hnf => ⟨o, (oth b (nrec b o hb hnf)).trans hb, rfl⟩) hf ((oth a (Ne.symm g6)).trans g1)
    (fun b o hb => (oth b fun q => by subst q; rw [g5] at hb; cases hb).trans (b1 b o hb)) b2 g3 (Array.getElem?_eq_some_iff.mp g4).1 g2 fun h' ⟨z1, z2, z3, z4⟩ => ?_
  exact k h' ⟨z1, b2, z2, z3⟩ fun b o hb hnf => z4 b o ((oth b (nrec b o hb hnf)).trans hb) hnf
/-- noted, whatever the block's air has -/
theorem note_air (hfr : A.frames = some (e0 :: o0)) (hf : e0.frame = some L) (hc : ce.frame = some L) (hne : L2 ≠ L) (hZ : HandSPX.Steady Z) (x : Sky B (e0 :: o0) a Z L2 s.heap ∨ HandSPX.HeldZ B (e0 :: o0) a Z L s.heap)
    (k : ∀ h', HandSPX.HeldZ B (e0 :: o0) a Z L h' → s.heap.UpToSlots h' → Q () { s with heap := h' }) : wpAny M A (noteFrame (.ref a) ce) Q E s := by
  rw [noteFrame_env _ (hc.trans hf.symm)]
  rcases x with (⟨b1, b2, b3, oe, vs, g1, g2, g3, g4⟩ | x | x) | x
  · exact HandSPX.look_newZ hZ hfr b3 hf g1 b1 b2 g3 g4 g2 k
  · exact HandSPX.looks_onZ hZ hfr hf x k
  · exact note_other hZ hfr hf hne x k
  · exact HandSPX.againZ hf x.2.2.2 (k _ x (Heap.UpToSlots.refl _))
end
theorem trace_same {h h2 B : Heap} {a C : Addr} {Z : Obj → Prop} {fl : Value} {m : Str → Option Value} (x : HandSPX.TracedZ h B a Z fl) (hn : h.Ns C m) (sb : Heap.SameBut C h h2) : HandSPX.TracedZ h2 (PySem.W.hideAll B [C]) a Z fl := by
  obtain ⟨oe, vs, T, oT, ts, g1, g2, g3, g4, g5, g6, g7, g8, g9⟩ := x
  obtain ⟨oC, es, ep, c1, c2, _⟩ := hn
  have n1 : a ≠ C := fun q => by subst q; rw [c1] at g1; cases g1; rw [c2] at g3; cases g3
  have n2 : T ≠ C := fun q => by subst q; rw [c1] at g7; cases g7; rw [c2] at g8; cases g8
  refine ⟨oe, vs, T, oT, ts, (sb.2 a n1).trans g1, g2, g3, g4, ?_, g6, (sb.2 T n2).trans g7, g8, g9⟩
  cases q : (PySem.W.hideAll B [C]).get? T with
  | none => rfl
  | some o => rw [PySem.W.of_hideAll _ q] at g5; cases g5
theorem held_same {h h2 B : Heap} {l : List PySem.Env} {a C L : Addr} {Z : Obj → Prop} {m m2 : Str → Option Value} (x : HandSPX.HeldZ B l a Z L h) (hn : h.Ns C m) (hn2 : h2.Ns C m2) (sb : Heap.SameBut C h h2) : HandSPX.HeldZ (PySem.W.hideAll B [C]) l a Z L h2 := by
  obtain ⟨b1, b2, b3, b4⟩ := x
  refine ⟨fun b o e => ?_, ?_, ?_, trace_same b4 hn sb⟩
  · have ne : b ≠ C := fun q => by subst q; rw [PySem.W.hideAll_none [b] (.head _)] at e; cases e
    exact (sb.2 b ne).trans (b1 b o (PySem.W.of_hideAll _ e))
  · cases q : (PySem.W.hideAll B [C]).get? a with
    | none => rfl
    | some o => rw [PySem.W.of_hideAll _ q] at b2; cases b2
  · have f2 : h2.FunFrames B l := Heap.FunFrames.sameBut sb hn2 b3
    refine funFrames_none f2 fun L' hL => ?_
    cases q : (PySem.W.hideAll B [C]).get? L' with
    | none => rfl
    | some o => have := PySem.W.of_hideAll _ q; rw [(f2.mem hL).1] at this; cases this
/-- out of the block, then out of the comprehension -/
theorem leaves_comp {X : Cx} {W Wb : WX} {pins : List (Addr × Obj)} {σ : L2.St} {H3 : Hp} {s3 s' : Shared} {scope : Scope} {ce : PySem.Env} {fp : List Addr} {e0 : PySem.Env} {o0 : List PySem.Env} {L : Addr} {u : Value}
    (hst : X.stack = e0 :: o0) (hf0 : e0.frame = some L) (hfX : X.env.frame = some L) (tk : ∀ u s', XH X W u s' → X.xe u s') (hW : ∀ cls d σb Hb, Wb cls d σb Hb → W cls d σ Hb)
    (I3 : Inv X pins σ H3 s3) (hce : ce.locals = s3.heap.objs.size) (hcf : ce.frame = X.env.frame) (hfp : ∀ b ∈ fp, FpOk X pins H3 b) (x : Air (X.blk s3 H3 scope ce fp) Wb u s') :
    notedBy (model X.prog X.w) X.A ce (CompFails (model X.prog X.w) X.A X.xe ce) u s' := by
  have main : ∀ (a : Addr) (B : Heap) (sI : Shared) (pb : List (Addr × Obj)) (σb : L2.St) (Hb : Hp) (cls : Value) (d : Option Addr), u = .ref a → Inv (X.blk s3 H3 scope ce fp) pb σb Hb sI → (∀ b o, sI.heap.get? b = some o → b ∉ frs X.stack → B.get? b = some o) → sI.heap.UpToSlots s'.heap →
      (Sky B X.stack a (Zc cls d) ce.locals s'.heap ∨ HandSPX.HeldZ B X.stack a (Zc cls d) L s'.heap) → Hb a = none → s'.os = sI.os → AllBare s'.gens → Wb cls d σb Hb → notedBy (model X.prog X.w) X.A ce (CompFails (model X.prog X.w) X.A X.xe ce) u s' := by
    intro a B sI pb σb Hb cls d e IB nb up sky na os ag w
    subst e
    obtain ⟨mC, hC, _⟩ := IB.loc
    have hC : sI.heap.Ns ce.locals mC := hC
    have nC : Hb s3.heap.objs.size = none := by rw [← hce]; exact IB.free
    have I7 : Inv X pins σ Hb sI := Inv.call' (ch := fp) I3 IB.os IB.base IB.hok IB.bare fun b hb => ⟨(hfp b hb).2.2.2.1, (hfp b hb).2.1, (hfp b hb).2.2.2.2.1, (hfp b hb).2.2.2.2.2⟩
    obtain ⟨f0, f1, f2, f3, f4, f5⟩ := Inv.fpOk (H' := Hb) I3 (Nat.le_refl _) nC
    have I8 : Inv X pins σ Hb { sI with heap := PySem.W.hideAll sI.heap [ce.locals], toks := sI.toks } := by
      rw [← hce] at f0 f1 f3 f4 f5
      exact Inv.turned (t' := sI.toks) I7 (fun b o hb q => PySem.W.hideAll_get _ q (by simpa using hb)) f0 f1 f3 f4 f5
    have LC : ce.locals ≠ L := fun q => by
      have : L ∈ frs X.stack := by rw [hst]; exact List.mem_filterMap.mpr ⟨e0, .head _, hf0⟩
      obtain ⟨_, o, ho, _⟩ := I3.stack.mem this
      have := Heap.lt_size ho
      rw [← q, hce] at this
      exact absurd this (Nat.lt_irrefl _)
    have hfr : X.A.frames = some (e0 :: o0) := by rw [I3.ok.frames, hst]
    rw [hst] at sky
    show wpAny _ X.A (noteFrame (.ref a) ce) _ _ s'
    refine note_air hfr hf0 (hcf.trans hfX) LC Zc.steady sky fun h1 held up1 => ?_
    have hN : h1.Ns ce.locals mC := (hC.upToSlots up).upToSlots up1
    refine ⟨mC, hN, fun h2 m2 hn2 sb => ?_⟩
    have held2 := held_same held hN hn2 sb
    obtain ⟨z1, z2, z3, oe, vs, T, oT, ts, g1, g2, g3, g4, g5⟩ := id held2
    unfold PySem.passOn
    refine wpAny_bind (wpAny_field g1 g3 g4 ?_)
    rw [if_neg (show ¬ ((Value.ref T == Value.none) = true) from by simp), hcf, hfX]
    refine wpAny_bind (HandSPX.setFlight_onZ held2 fun h3 held3 up3 => ?_)
    refine wpAny_throw (tk _ _ ⟨a, _, _, pins, σ, Hb, cls, d, L, rfl, hfX, I8, fun b o q hb => ?_, fun b o q hd => ?_, by rw [hst]; exact held3, na, os, ag, hW _ _ _ _ w⟩)
    · have ne : b ≠ ce.locals := fun z => by
        have q : (PySem.W.hideAll sI.heap [ce.locals]).get? b = some o := q
        rw [z, PySem.W.hideAll_none _ (.head _)] at q; cases q
      exact PySem.W.hideAll_get _ (nb b o (PySem.W.of_hideAll _ q) hb) (by simpa using ne)
    · have ne : b ≠ ce.locals := fun z => by
        have q : (PySem.W.hideAll sI.heap [ce.locals]).get? b = some o := q
        rw [z, PySem.W.hideAll_none _ (.head _)] at q; cases q
      obtain ⟨sl1, k1⟩ := up b o (PySem.W.of_hideAll _ q) hd
      obtain ⟨sl2, k2⟩ := up1 b _ k1 hd
      have k3 : h2.get? b = some { o with slots := sl2 } := (sb.2 b ne).trans k2
      exact up3 b { o with slots := sl2 } k3 hd
  rcases x with ⟨a, B, sI, pb, σb, Hb, cls, d, e, IB, nb, up, sky, na, os, ag, w⟩ | ⟨a, B, sI, pb, σb, Hb, cls, d, L2, e, f, IB, nb, up, hh, na, os, ag, w⟩
  · exact main a B sI pb σb Hb cls d e IB nb up (.inl sky) na os ag w
  · have f : ce.frame = some L2 := f
    rw [hcf, hfX] at f; cases f
    exact main a B sI pb σb Hb cls d e IB nb up (.inr hh) na os ag w
/-- a block's state at an iterator's turn -/
structure BlkAt (Y : Cx) (fp : List Addr) (τ : L2.St) (tn : Nat → Heap → Prop) (i : Nat) (H : Hp) (s : Shared) : Prop where
  inv : Inv Y [] τ H s
  at_ : tn i s.heap
  off : ∀ b ∈ fp, H b = none
/-- a list comprehension whose element may let an exception out; use: what takes the list ahead of the block's end -/
theorem lcx {X : Cx} {pins : List (Addr × Obj)} {s : Shared} {σ : L2.St} {H : Hp} {Q : VK} {pos' : Pos} {use : Option (Value → Sem Unit)} {Qf : Value → Shared → Prop} {W : WX} {elt tg iter : Expr} {ifs : List Expr} {scope : Scope} {own : List (Str × Nat)} {pos : Pos} {wi : TI} {g : TG} {tt : TT} {te : WX → TE} (calm : X.calm = true) (nd : X.N.Nodup)
    (fr : ∃ e0 o0 L, X.stack = e0 :: o0 ∧ e0.frame = some L ∧ X.env.frame = some L) (tk : ∀ u s', XH X W u s' → X.xe u s') (hi : PI X tg iter wi) (bo : BlkOk X.N X.env.scope scope own)
    (hg : ∀ (s : Shared) (H : Hp) (c : Addr) (cl : List (Str × Addr)) (fp : List Addr), PG (X.blk s H scope (compEnvC scope cl c X.env) fp) tg g)
    (ht : ∀ (s : Shared) (H : Hp) (c : Addr) (cl : List (Str × Addr)) (fp : List Addr), PTs (X.blk s H scope (compEnvC scope cl c X.env) fp) ifs tt)
    (he : ∀ (V : WX) (s : Shared) (H : Hp) (c : Addr) (cl : List (Str × Addr)) (fp : List Addr), PE (Cx.blkX X s H scope (compEnvC scope cl c X.env) fp V) elt (te V)) (hs : ∀ x, foldedSetIterable iter X.env x = pure x)
    (I : Inv X pins σ H s) (wish : tLc wi g tt (te fun cls d _ H' => W cls d σ H') (own.map (·.2)) σ H Q)
    (ends : ∀ (D : Addr) (ce : PySem.Env) (s' : Shared) (m : Str → Option Value) (H' : Hp), Inv X pins σ H' s' → Q (.ref D) H' → s'.heap.Ns ce.locals m → FpOk X pins H' ce.locals → compEnds (model X.prog X.w) X.A X.xe use Qf (.ref D) ce (.ok .next) s') :
    wpAny (model X.prog X.w) X.A (comprehension (.ListComp elt [⟨tg, iter, ifs, 0⟩] scope pos) scope X.env pos' (newList []) false (eval iter X.env) use) Qf X.xe s := by
  obtain ⟨e0, o0, L, hst, hf0, hfX⟩ := fr
  have cap : ∀ y ∈ scope.names, y.2 = .free → ∃ c, X.env.cells.lookup y.1 = some c := fun y hy q => (bo.free y hy q).elim (fun k => I.ok.has _ (.inl k)) fun k => I.ok.has _ (.inr k)
  refine comprehension_at (use := use) rfl hs (closure_ok cap) bo.kind (fun y hy q => (bo.uniq y hy).trans (by rw [q])) (thn (hi.run pins s σ H _ I wish) fun v0 s1 k1 => thn k1 fun v1 s2 k2 => ?_)
  obtain ⟨it, fp, tn, J, H2, rfl, I2, T, t0, f2, turns⟩ := k2
  refine wpAny_newObj_type (newEnv_comp ?_) (Nat.zero_le _)
  obtain ⟨D, eD⟩ : ∃ D, D = s2.heap.objs.size := ⟨_, rfl⟩
  rw [← eD]
  have freeD : H2 D = none := I2.hok.fresh (Nat.le_of_eq eD.symm)
  obtain ⟨V, ⟨m0, v0'⟩, turn⟩ := turns D freeD
  obtain ⟨s3, e3⟩ : ∃ s3 : Shared, s3 = { s2 with heap := s2.heap.push { cls := .type "list", data := .seq ([] : List Value).toArray } } := ⟨_, rfl⟩
  have he3 : s3.heap = s2.heap.push { cls := .type "list", data := .seq ([] : List Value).toArray } := by rw [e3]
  have old3 : ∀ b o, s2.heap.get? b = some o → s3.heap.get? b = some o := fun b o q => by rw [he3]; exact Heap.get?_push_of_some _ q
  have I3 : Inv X pins σ (upd H2 D (.lst [])) s3 := by
    rw [e3]
    refine I2.laid (t' := s2.toks) (fun b o q => Heap.get?_push_of_some _ q) (Nat.le_of_eq eD.symm) ⟨Nat.zero_le _, [], 0, .nil, ?_⟩
    rw [eD]
    exact Heap.get?_push_size _ rfl
  have below : ∀ b ∈ fp, b < s2.heap.objs.size := fun b hb => (T.obj _ _ t0 b hb).elim fun o q => Heap.lt_size q.1
  obtain ⟨H3, eH3⟩ : ∃ H3, H3 = upd H2 D (.lst []) := ⟨_, rfl⟩
  rw [← eH3] at I3 v0'
  have f3 : ∀ b ∈ fp, FpOk X pins H3 b ∧ b < s3.heap.objs.size := fun b hb => by
    have lt := below b hb
    have nb : H3 b = none := by rw [eH3, upd_ne (by rw [eD]; exact Nat.ne_of_lt lt)]; exact (f2 b hb).1
    exact ⟨⟨nb, (f2 b hb).2⟩, by rw [he3, Heap.size_push]; exact Nat.lt_succ_of_lt lt⟩
  obtain ⟨cl, ecl⟩ : ∃ cl, cl = cellsFrom (s3.heap.objs.size + 1) scope.names (cloFrom X.env.cells scope.names []) := ⟨_, rfl⟩
  have B0 := block_start I3 bo nd f3
  rw [← ecl] at B0
  rw [← e3, ← ecl]
  have pg := hg s3 H3 s3.heap.objs.size cl fp
  have pt := ht s3 H3 s3.heap.objs.size cl fp
  have pe := he (fun cls d _ H' => W cls d σ H') s3 H3 s3.heap.objs.size cl fp
  obtain ⟨s4, e4⟩ : ∃ s4 : Shared, s4 = { s3 with heap := pushCells (s3.heap.push { cls := .type "dict", data := .dict #[] }) scope.names } := ⟨_, rfl⟩
  show codeAny _ _ (.compStart (.ListComp elt [⟨tg, iter, ifs, 0⟩] scope pos) 0 (.ref it) (.ref D) (compEnvC scope cl s3.heap.objs.size X.env)) (compEnds (model X.prog X.w) X.A X.xe use Qf (.ref D) (compEnvC scope cl s3.heap.objs.size X.env)) { s3 with heap := pushCells (s3.heap.push { cls := .type "dict", data := .dict #[] }) scope.names }
  rw [← e4] at B0 ⊢
  have at4 : tn 0 s4.heap := T.keep _ _ _ t0 fun b _ o q => by rw [e4]; exact pushCells_keeps _ _ _ _ (Heap.get?_push_of_some _ (old3 b o q))
  obtain ⟨ce, ece⟩ : ∃ ce, ce = compEnvC scope cl s3.heap.objs.size X.env := ⟨_, rfl⟩
  have ceL : ce.locals = s3.heap.objs.size := by rw [ece]; rfl
  have ceF : ce.frame = X.env.frame := by rw [ece]; rfl
  rw [← ece] at pg pt pe B0 ⊢
  obtain ⟨τ, eτ⟩ : ∃ τ, τ = wipe σ (own.map (·.2)) := ⟨_, rfl⟩
  rw [← eτ] at B0 turn
  have mine : ∀ {τ' : L2.St} {H' : Hp} {s' : Shared}, Inv (X.blk s3 H3 scope ce fp) [] τ' H' s' → (∀ b ∈ fp, H' b = none) → ∀ b ∈ fp, FpOk (X.blk s3 H3 scope ce fp) [] H' b := fun {τ' H' s'} J1 off b hb =>
    ⟨off b hb, (J1.ok.exf b hb).1, J1.ok.exfs b hb, .inl hb, fun x c q => (J1.ok.exf b hb).2 x c q, fun p hp => by cases hp⟩
  have fails : ∀ u s', Air (X.blk s3 H3 scope ce fp) (fun cls d _ H' => W cls d σ H') u s' → notedBy (model X.prog X.w) X.A ce (CompFails (model X.prog X.w) X.A X.xe ce) u s' := fun u s' x =>
    leaves_comp (W := W) hst hf0 hfX tk (fun _ _ _ _ w => w) I3 ceL ceF (fun b hb => (f3 b hb).1) x
  have loop : codeAny (model X.prog X.w) X.A (.compLoop (.ListComp elt [⟨tg, iter, ifs, 0⟩] scope pos) 0 (.ref it) (.ref D) ce) (compEnds (model X.prog X.w) X.A X.xe use Qf (.ref D) ce) s4 := by
    refine compLoop_any (fun n s' => ∃ i H', BlkAt (X.blk s3 H3 scope ce fp) fp τ tn i H' s' ∧ V i n H') ?_ m0 ⟨0, H3, ⟨B0, at4, fun b hb => (f3 b hb).1.1⟩, v0'⟩
    rintro n s5 ⟨i, H5, ⟨I5, at5, off5⟩, v5⟩
    rcases turn i n H5 v5 with ⟨stop, fin⟩ | ⟨go, Nx, onw, step⟩
    · refine thnF (T.done (X.blk s3 H3 scope ce fp) rfl rfl rfl calm i [] s5 _ H5 (fun _ _ => False) I5 (mine I5 off5) at5 stop) fun r s6 k6 => ?_
      obtain ⟨rfl, I6⟩ := k6
      have I7 : Inv X pins σ H5 s6 := Inv.call' (ch := fp) I3 I6.os I6.base I6.hok I6.bare fun b hb => ⟨(f3 b hb).1.2.2.2.1, (f3 b hb).1.2.1, (f3 b hb).1.2.2.2.2.1, (f3 b hb).1.2.2.2.2.2⟩
      have nC : H5 s3.heap.objs.size = none := by rw [← ceL]; exact I6.free
      obtain ⟨m, hm, _⟩ := I6.loc
      have fC := Inv.fpOk (H' := H5) I3 (Nat.le_refl _) nC
      rw [← ceL] at fC
      exact ends D ce s6 m H5 I7 fin hm fC
    · refine thnF (T.item (X.blk s3 H3 scope ce fp) rfl rfl rfl calm i [] s5 _ H5 (fun _ _ => False) I5 (mine I5 off5) at5 go) fun r s6 k6 => ?_
      obtain ⟨u, rfl, k6⟩ := k6
      refine thnF k6 fun _ s7 k7 => ?_
      obtain ⟨x, H7, I7, r7, y7, at7, off7⟩ := k7
      have P7 := Inv.pinned I7 (mine I7 off7) (T.obj _ _ at7)
      refine thnF (pg.run _ s7 _ H7 x u _ P7 r7 (step x H7 y7)) fun _ s8 k8 => ?_
      obtain ⟨τ8, H8, I8, hw8, q8⟩ := k8
      refine thnF (pt.run _ s8 τ8 H8 _ I8 q8) fun b s9 k9 => ?_
      obtain ⟨H9, I9, q9⟩ := k9
      have next : ∀ {s' : Shared} {H' : Hp}, Inv (X.blk s3 H3 scope ce fp) ([] ++ pinsAt fp s7.heap) τ8 H' s' → Nx H' → ∃ m, m < n ∧ ∃ i H', BlkAt (X.blk s3 H3 scope ce fp) fp τ tn i H' s' ∧ V i m H' := fun {s' H'} J1 nx => by
        obtain ⟨m', lt, v'⟩ := onw H' nx
        have kept : ∀ b ∈ fp, ∀ o, s7.heap.get? b = some o → s'.heap.get? b = some o ∧ H' b = none := fun b hb o q => by
          have z := J1.pin (b, o) (List.mem_append_right _ (List.mem_append_right _ (mem_pinsAt hb q)))
          exact ⟨z.1, z.2.1⟩
        refine ⟨m', lt, i + 1, H', ⟨Inv.weak (Inv.unpinned (pins := []) J1) ?_ (fun j v q => ?_), T.keep _ _ _ at7 fun b hb o q => (kept b hb o q).1, fun b hb => ?_⟩, v'⟩
        · rw [← hw8, wipe_length]
        · rw [← hw8] at q
          exact (wipe_some q).1
        · obtain ⟨o, q, _⟩ := T.obj _ _ at7 b hb
          exact (kept b hb o q).2
      cases b with
      | false =>
        rw [if_neg Bool.false_ne_true] at q9 ⊢
        exact next I9 q9
      | true =>
        rw [if_pos rfl] at q9 ⊢
        refine wpAny_mono (pe.run _ s9 τ8 H9 _ (Inv.wants _ I9) q9) (fun z s10 k10 => ?_) fun u s' x => by cases use <;> exact fails u s' x
        obtain ⟨yv, H10, I10, r10, acc, hD10, hz10, nx⟩ := k10
        exact app_ok (X := X.blk s3 H3 scope ce fp) (Inv.unwants I10) hD10 hz10 r10 fun s11 I11 => next I11 nx
  exact codeAny_compStart_list loop (T.self X.A 0 _ _ _ at4 loop)
/-- as a value -/
theorem pe_lcx {X : Cx} {W : WX} {elt tg iter : Expr} {ifs : List Expr} {scope : Scope} {own : List (Str × Nat)} {pos : Pos} {wi : TI} {g : TG} {tt : TT} {te : WX → TE} (calm : X.calm = true) (nd : X.N.Nodup)
    (fr : ∃ e0 o0 L, X.stack = e0 :: o0 ∧ e0.frame = some L ∧ X.env.frame = some L) (tk : ∀ u s', XH X W u s' → X.xe u s') (hi : PI X tg iter wi) (bo : BlkOk X.N X.env.scope scope own)
    (hg : ∀ (s : Shared) (H : Hp) (c : Addr) (cl : List (Str × Addr)) (fp : List Addr), PG (X.blk s H scope (compEnvC scope cl c X.env) fp) tg g)
    (ht : ∀ (s : Shared) (H : Hp) (c : Addr) (cl : List (Str × Addr)) (fp : List Addr), PTs (X.blk s H scope (compEnvC scope cl c X.env) fp) ifs tt)
    (he : ∀ (V : WX) (s : Shared) (H : Hp) (c : Addr) (cl : List (Str × Addr)) (fp : List Addr), PE (Cx.blkX X s H scope (compEnvC scope cl c X.env) fp V) elt (te V)) (hs : ∀ x, foldedSetIterable iter X.env x = pure x := by intro _; rfl) :
    PE X (.ListComp elt [⟨tg, iter, ifs, 0⟩] scope pos) (fun σ H Q => tLc wi g tt (te fun cls d _ H' => W cls d σ H') (own.map (·.2)) σ H Q) := by
  refine ⟨fun pins s σ H Q I wish => ?_⟩
  rw [eval_ListComp]
  refine lcx (W := W) calm nd fr tk hi bo hg ht he hs I wish fun D ce s' m H' I' fin hm fC => ⟨m, hm, fun h'' sb => ?_⟩
  obtain ⟨c0, c1, _, c3, c4, c5⟩ := fC
  exact ⟨.ref D, H', Inv.turned (t' := s'.toks) I' (fun b o hb q => (sb.2 b hb).trans q) c0 c1 c3 c4 c5, rfl, fin⟩
/-- given to a local name on one line: the name takes the list ahead of the block's end -/
theorem ps_setLcx {X : Cx} {W : WX} {i : Nat} {y : Str} {py : Pos} {elt tg iter : Expr} {ifs : List Expr} {scope : Scope} {own : List (Str × Nat)} {pos spos : Pos} {wi : TI} {g : TG} {tt : TT} {te : WX → TE} (calm : X.calm = true) (nd : X.N.Nodup)
    (hy : X.N[i]? = some y) (hyl : X.env.scope.names.lookup y = some .local) (hsw : swapsWith (.ListComp elt [⟨tg, iter, ifs, 0⟩] scope pos) (some (.Name y py)) spos.line X.env = pure true)
    (fr : ∃ e0 o0 L, X.stack = e0 :: o0 ∧ e0.frame = some L ∧ X.env.frame = some L) (tk : ∀ u s', XH X W u s' → X.xe u s') (hi : PI X tg iter wi) (bo : BlkOk X.N X.env.scope scope own)
    (hg : ∀ (s : Shared) (H : Hp) (c : Addr) (cl : List (Str × Addr)) (fp : List Addr), PG (X.blk s H scope (compEnvC scope cl c X.env) fp) tg g)
    (ht : ∀ (s : Shared) (H : Hp) (c : Addr) (cl : List (Str × Addr)) (fp : List Addr), PTs (X.blk s H scope (compEnvC scope cl c X.env) fp) ifs tt)
    (he : ∀ (V : WX) (s : Shared) (H : Hp) (c : Addr) (cl : List (Str × Addr)) (fp : List Addr), PE (Cx.blkX X s H scope (compEnvC scope cl c X.env) fp V) elt (te V)) (hs : ∀ x, foldedSetIterable iter X.env x = pure x := by intro _; rfl) :
    PS X (.Assign [.Name y py] (.ListComp elt [⟨tg, iter, ifs, 0⟩] scope pos) spos) (tAsg (fun σ H Q => tLc wi g tt (te fun cls d _ H' => W cls d σ H') (own.map (·.2)) σ H Q) (gName i)) := by
  refine ⟨fun pins s σ H D I wish => ?_⟩
  rw [exec_Assign_Name_used _ _ _ _ hsw]
  refine wpAny_bind (wpAny_standAt (wpAny_bind ?_))
  refine wpAny_bind (thn (lcx (use := some (assign (.Name y py) X.env)) (W := W) (Q := fun x H1 => gName i x σ H1 D.nx) (Qf := fun _ s' => SP X pins D .next s') calm nd fr tk hi bo hg ht he hs I wish fun L ce s' m H' I' fin hm fC => ?_)
    fun _ s' k => wpAny_pure (wpAny_pure k))
  obtain ⟨c0, c1, _, c3, c4, c5⟩ := fC
  refine wpAny_assign_Name (store_ok2 (v := V.ref L) I' nd hy (.inl hyl) rfl (fun s2 I2 ⟨a, sb, ha⟩ => ?_) (.inr hyl))
  have ne : ce.locals ≠ a := ha.elim (fun z => by rw [z]; exact c1) fun z q => c4 y a z q.symm
  exact ⟨m, hm.sameBut sb ne, fun h3 sb3 => ⟨_, H', Inv.turned (t' := s2.toks) I2 (fun b o hb q => (sb3.2 b hb).trans q) c0 c1 c3 c4 c5, fin⟩⟩
end Den
namespace Den
open PySem PySem.Spec PyProof.Rows L2
abbrev W0 : WX := fun _ _ _ _ => False
theorem takesW0 {X : Cx} : Takes X W0 := fun _ _ ⟨_, _, _, _, _, _, _, _, _, _, _, _, _, _, _, _, w⟩ => w.elim
/-- a def's promise: by data -/
def spD (K : PySem.W.Frag) (cls : Nat → Value) (n : Nat) (fr : Bool) (g : List D → R D) : Sp := fun vs H Q E => vs.length = n ∧ ∃ G ds, Ok2 G H ∧ RpL K G vs ds ∧ match g ds with
  | .ok z => ∀ v H' G', Stp G H G' H' → PK (if fr then .T else .S) K G H G' H' v z → Q v H'
  | .exc c => ∀ H' G', Stp G H G' H' → E (cls c) none H'
  | .bad => False
structure FnD (P : Program) (w : World) (K : PySem.W.Frag) (mg : Str → Option Value) (base : Heap) (A : Around) (cls : Nat → Value) (g : List D → R D) (x : Str) (n : Nat) (fr : Bool) : Prop where
  ex : ∃ (fa : Addr) (fd : FuncData) (ps : List Str) (k : Nat), FnOk P w K mg base (L2.CX P w) k fa fd ps (spD K cls n fr g) ∧ Room k A ∧ mg x = some (.ref fa) ∧ PySem.W.keepIn K (.ref fa) = true ∧ Binds K fd ps []
/-- what a module's constant is -/
def GcOk (K : PySem.W.Frag) (mg : Str → Option Value) (x : Str) : GC → Prop
  | .int i => ∃ t, mg x = some (.int i t)
  | .str s => ∃ t, mg x = some (.str s t)
  | .wds ws => ∃ a, mg x = some (.ref a) ∧ ∀ H, SqT K H a (ws.map V.str)
/-- what of the text an own class must have -/
structure ClsD (K : PySem.W.Frag) (c : Nat) (C : Addr) : Prop where
  cl : Cls K C
  na : ∀ f ∈ fldN c, NoAttr K C f
  ha : PySem.W.findIn K (.ref C) "__class__" = some (some (.builtin "object.__class__"))
  hn : PySem.W.specialIn K (.builtin "object.__class__") "__get__" = some (some (.builtin "getset_descriptor.__get__"))
  ht : PySem.W.takesIn K (.builtin "object.__class__") = some true
  hm : PySem.W.mroIn K C (.type "object") = some true
/-- a method of the class at C -/
structure MetD (P : Program) (w : World) (K : PySem.W.Frag) (mg : Str → Option Value) (base : Heap) (A : Around) (cls : Nat → Value) (g : List D → R D) (C : Addr) (c m n : Nat) (fr : Bool) : Prop where
  ex : ∃ (fa : Addr) (fd : FuncData) (ps : List Str) (k : Nat), FnOk P w K mg base (L2.CX P w) k fa fd ps (spD K cls n fr g) ∧ Room k A ∧ Meth K C (mNm m) fa ∧ Binds K fd ps []
  nf : mNm m ∉ fldN c
/-- __init__'s promise: by data -/
def ArgI (K : PySem.W.Frag) (b : Bool) (G H : Hp) (x : Addr) (ws : List V) (ds : List D) : Prop := if b then ∃ a o d, ws = [.ref a] ∧ ds = [d] ∧ H a = some o ∧ G a = none ∧ a ≠ x ∧ RpO K G o d else RpL K G ws ds
def spI (K : PySem.W.Frag) (cls : Nat → Value) (b : Bool) (c : Nat) (C : Addr) (n : Nat) (g : List D → R D) : Sp := fun vs H Q E => vs.length = n + 1 ∧ ∃ x dx ws G ds, vs = .ref x :: ws ∧ H x = some (.ins C dx []) ∧ G x = none ∧ Ok2 G H ∧ ArgI K b G H x ws ds ∧ match g ds with
  | .ok z => ∃ zs, z = .obj c zs ∧ ∀ H1 G1 kvs, Stp G H G1 H1 → kvs.map (·.1) = fldN c → RpL K G1 (kvs.map (·.2)) zs → Q .non (L2.upd H1 x (.ins C dx kvs))
  | .exc k => ∀ H' G', Stp G H G' H' → E (cls k) none H'
  | .bad => False
structure MkD (P : Program) (w : World) (K : PySem.W.Frag) (mg : Str → Option Value) (base : Heap) (A : Around) (cls : Nat → Value) (g : List D → R D) (c : Nat) (x : Str) (n : Nat) (b : Bool) : Prop where
  ex : ∃ (C fa : Addr) (fd : FuncData) (ps : List Str) (k : Nat), FnOk P w K mg base (L2.CX P w) k fa fd ps (spI K cls b c C n g) ∧ Room (k + 1) A ∧ clsAt K c = some C ∧ mg x = some (.ref C) ∧ Mk K C fa ∧ Binds K fd ps [] ∧ ∀ zs z, g zs = .ok z → ∃ fs, z = .obj c fs
/-- where a def's body (d) or a comprehension's block stands -/
structure Ctx (T : Tbl) (fn : Nat → List D → R D) (W : WX) (cls : Nat → Value) (d : Bool) (sc : Scope) (X : Cx) : Prop where
  hN : X.N = T.N
  nd : T.N.Nodup
  hs : X.env.scope = sc
  calm : X.calm = true
  fnc : d = true → ∀ x, X.fn x = true
  bt : ∀ x ∈ T.bt, X.mg x = none
  cs : ∀ p ∈ T.cs, GcOk X.K X.mg p.1 p.2
  un : X.A.units + 64 < cLine
  tk : Takes X W
  fns : ∀ f x n fr, T.fns.lookup f = some (x, n, fr) → FnD X.prog X.w X.K X.mg X.base X.A cls (fn f) x n fr
  objs : ∀ c C, clsAt X.K c = some C → ClsD X.K c C
  mets : ∀ m n fr, T.mf.lookup m = some (n, fr) → ∀ c C, mcl m c = true → clsAt X.K c = some C → MetD X.prog X.w X.K X.mg X.base X.A cls (fn (mid c m)) C c m n fr
  mks : ∀ c x n b, T.mks.lookup c = some (x, n, b) → MkD X.prog X.w X.K X.mg X.base X.A cls (fn (iid c)) c x n b
  iscs : ∀ y ∈ T.isc, ∃ Y, X.mg (clsNm y) = some (.ref Y) ∧ ∀ c C, clsAt X.K c = some C → PySem.W.kitOne X.K (.ref C) (.ref Y) = some (subC c y)
  frm : ∃ e0 o0 L, X.stack = e0 :: o0 ∧ e0.frame = some L ∧ X.env.frame = some L
  tkh : ∀ u s', XH X W u s' → X.xe u s'
theorem Ctx.blk {T : Tbl} {fn : Nat → List D → R D} {W : WX} {cls : Nat → Value} {d : Bool} {sc : Scope} {X : Cx} (C : Ctx T fn W cls d sc X) (s : Shared) (H : Hp) (scope : Scope) (c : Addr) (cl : List (Str × Addr)) (fp : List Addr) :
    Ctx T fn W0 cls false (relS scope sc) (X.blk s H scope (compEnvC scope cl c X.env) fp) where
  hN := C.hN
  nd := C.nd
  hs := by rw [← C.hs]; rfl
  calm := C.calm
  fnc := fun h => nomatch h
  bt := C.bt
  cs := C.cs
  un := C.un
  tk := takesW0
  fns := C.fns
  objs := C.objs
  mets := C.mets
  mks := C.mks
  iscs := C.iscs
  frm := C.frm
  tkh := fun _ _ ⟨_, _, _, _, _, _, _, _, _, _, _, _, _, _, _, _, _, _, w⟩ => w.elim
theorem Ctx.blkX {T : Tbl} {fn : Nat → List D → R D} {W : WX} {cls : Nat → Value} {d : Bool} {sc : Scope} {X : Cx} (C : Ctx T fn W cls d sc X) (s : Shared) (H : Hp) (scope : Scope) (c : Addr) (cl : List (Str × Addr)) (fp : List Addr) (V : WX) :
    Ctx T fn V cls false (relS scope sc) (Cx.blkX X s H scope (compEnvC scope cl c X.env) fp V) where
  hN := C.hN
  nd := C.nd
  hs := by rw [← C.hs]; rfl
  calm := C.calm
  fnc := fun h => nomatch h
  bt := C.bt
  cs := C.cs
  un := C.un
  tk := Air.takes
  fns := C.fns
  objs := C.objs
  mets := C.mets
  mks := C.mks
  iscs := C.iscs
  frm := C.frm
  tkh := Air.takesH
section
variable (W : WX) (cls : Nat → Value) (K : PySem.W.Frag)
/-- what is wanted of an expression's end -/
def Want (k : Kd) (r : R D) (G H : Hp) (σ : L2.St) (Q : VK) : Prop := match r with
  | .ok z => ∀ v H' G', Stp G H G' H' → PK k K G H G' H' v z → Q v H'
  | .exc c => ∀ H' G', Stp G H G' H' → W (cls c) none σ H'
  | .bad => False
def WantL (s : Bool) (r : R (List D)) (G H : Hp) (σ : L2.St) (Q : List V → Hp → Prop) : Prop := match r with
  | .ok zs => ∀ vs H' G', Stp G H G' H' → (if s then RpL K G' vs zs else PBL K G' H' vs zs) → Q vs H'
  | .exc c => ∀ H' G', Stp G H G' H' → W (cls c) none σ H'
  | .bad => False
def WantT (r : R D) (G H : Hp) (σ : L2.St) (Q : Bool → Hp → Prop) : Prop := match r with
  | .ok (.bl b) => ∀ H' G', Stp G H G' H' → Q b H'
  | .ok _ => False
  | .exc c => ∀ H' G', Stp G H G' H' → W (cls c) none σ H'
  | .bad => False
/-- an iterator that gives these data -/
def Yields (Kp : Hp → Prop) (J : It) (ds : List D) (G0 : Hp) : Prop := ∀ G H, Same G0 G → Ok2 G H → Kp H →
  (∀ i z, ds[i]? = some z → J.go i H ∧ ∀ x H', J.yld i H x H' → ∃ G', Stp G H G' H' ∧ Rp K G' x z) ∧ J.stop ds.length H
def WantI (nb : Bool) (r : R (List D)) (G H : Hp) (σ : L2.St) (Q : It → Hp → Prop) : Prop := match r with
  | .ok zs => ∀ J H' G', Stp G H G' H' → Yields K (fun H2 => nb = true ∨ Same H' H2) J zs G' → Q J H'
  | .exc c => ∀ H' G', Stp G H G' H' → W (cls c) none σ H'
  | .bad => False
variable {W cls K}
theorem Want.shift {k : Kd} {r : R D} {G H G1 H1 : Hp} {σ : L2.St} {Q : VK} (t : Stp G H G1 H1) (h : Want W cls K k r G H σ Q) : Want W cls K k r G1 H1 σ Q := by
  cases r with
  | ok z => exact fun v H' G' u p => h v H' G' (t.trans u) (p.shift t)
  | exc c => exact fun H' G' u => h H' G' (t.trans u)
  | bad => exact h
theorem WantT.shift {r : R D} {G H G1 H1 : Hp} {σ : L2.St} {Q : Bool → Hp → Prop} (t : Stp G H G1 H1) (h : WantT W cls r G H σ Q) : WantT W cls r G1 H1 σ Q := by
  cases r with
  | ok z =>
    cases z with
    | bl b => exact fun H' G' u => h H' G' (t.trans u)
    | _ => exact h
  | exc c => exact fun H' G' u => h H' G' (t.trans u)
  | bad => exact h
theorem WantL.shift {s : Bool} {r : R (List D)} {G H G1 H1 : Hp} {σ : L2.St} {Q : List V → Hp → Prop} (t : Stp G H G1 H1) (h : WantL W cls K s r G H σ Q) : WantL W cls K s r G1 H1 σ Q := by
  cases r with
  | ok z => exact fun v H' G' u p => h v H' G' (t.trans u) p
  | exc c => exact fun H' G' u => h H' G' (t.trans u)
  | bad => exact h
theorem WantI.shift {s : Bool} {r : R (List D)} {G H G1 H1 : Hp} {σ : L2.St} {Q : It → Hp → Prop} (t : Stp G H G1 H1) (h : WantI W cls K s r G H σ Q) : WantI W cls K s r G1 H1 σ Q := by
  cases r with
  | ok z => exact fun J H' G' u p => h J H' G' (t.trans u) p
  | exc c => exact fun H' G' u => h H' G' (t.trans u)
  | bad => exact h
end
section
variable (T : Tbl) (fn : Nat → List D → R D) (W : WX) (cls : Nat → Value) (K : PySem.W.Frag)
def tE (x : Ex) : TE := fun σ H Q => ∃ G ρ, FI K T.isOwn G ρ σ H ∧ Want W cls K (kd T x) (ev fn x ρ) G H σ Q
def tT (x : Ex) : TT := fun σ H Q => ∃ G ρ, FI K T.isOwn G ρ σ H ∧ WantT W cls (ev fn x ρ) G H σ Q
def tL (s : Bool) (x : Exs) : TA := fun σ H Q => ∃ G ρ, FI K T.isOwn G ρ σ H ∧ WantL W cls K s (evs fn x ρ) G H σ Q
mutual
def nBI : Itr → Bool
  | .seq a => nB T a
  | .rng1 _ => true | .rng2 _ _ => true | .rng3 _ _ _ => true
  | .enum a => nB T a
  | .zip a b => nB T a && nB T b
  | .rev a => nB T a
  | .its i => !T.isOwn i
end
def tIt (x : Itr) : TI := fun σ H Q => ∃ G ρ, FI K T.isOwn G ρ σ H ∧ WantI W cls K (nBI T x) (evi fn x ρ) G H σ Q
end
section
variable {T : Tbl} {fn : Nat → List D → R D} {W : WX} {cls : Nat → Value} {K : PySem.W.Frag} {G H : Hp} {σ : L2.St} {ρ : Env}
theorem seqE {x : Ex} {k : Kd} {f : D → R D} {Q : VK} {P : VK} (F : FI K T.isOwn G ρ σ H) (h : Want W cls K k ((ev fn x ρ).bind f) G H σ Q)
    (q : ∀ z v H1 G1, ev fn x ρ = .ok z → Stp G H G1 H1 → FI K T.isOwn G1 ρ σ H1 → PK (kd T x) K G H G1 H1 v z → Want W cls K k (f z) G1 H1 σ Q → P v H1) : tE T fn W cls K x σ H P := by
  refine ⟨G, ρ, F, ?_⟩
  cases e : ev fn x ρ with
  | ok z =>
    rw [e] at h
    exact fun v H' G' t p => q z v H' G' e t (F.step t) p (Want.shift t h)
  | exc c => rw [e] at h; exact h
  | bad => rw [e] at h; exact h
theorem seqTT {x : Ex} {f : Bool → R D} {Q : Bool → Hp → Prop} {P : Bool → Hp → Prop} (F : FI K T.isOwn G ρ σ H) (h : WantT W cls ((ev fn x ρ).bind fun z => (asBool z).bind f) G H σ Q)
    (q : ∀ b H1 G1, Stp G H G1 H1 → FI K T.isOwn G1 ρ σ H1 → WantT W cls (f b) G1 H1 σ Q → P b H1) : tT T fn W cls K x σ H P := by
  refine ⟨G, ρ, F, ?_⟩
  cases e : ev fn x ρ with
  | ok z =>
    rw [e] at h
    cases z with
    | bl b => exact fun H' G' t => q b H' G' t (F.step t) (WantT.shift t h)
    | _ => exact h
  | exc c => rw [e] at h; exact h
  | bad => rw [e] at h; exact h
theorem seqL {x : Exs} {s : Bool} {k : Kd} {f : List D → R D} {Q : VK} {P : List V → Hp → Prop} (F : FI K T.isOwn G ρ σ H) (h : Want W cls K k ((evs fn x ρ).bind f) G H σ Q)
    (q : ∀ zs vs H1 G1, evs fn x ρ = .ok zs → Stp G H G1 H1 → FI K T.isOwn G1 ρ σ H1 → (if s then RpL K G1 vs zs else PBL K G1 H1 vs zs) → Want W cls K k (f zs) G1 H1 σ Q → P vs H1) : tL T fn W cls K s x σ H P := by
  refine ⟨G, ρ, F, ?_⟩
  cases e : evs fn x ρ with
  | ok z =>
    rw [e] at h
    exact fun v H' G' t p => q z v H' G' e t (F.step t) p (Want.shift t h)
  | exc c => rw [e] at h; exact h
  | bad => rw [e] at h; exact h
theorem PK.mono {k : Kd} {G1 H1 G2 H2 : Hp} {v : V} {z : D} (h : PK k K G H G1 H1 v z) (t : Stp G1 H1 G2 H2) : PK k K G H G2 H2 v z := by
  cases k with
  | S => exact Rp.mono t.g h
  | T =>
    obtain ⟨a, o, e, n, ho, hg, r⟩ := h
    exact ⟨a, o, e, n, t.h _ _ ho, t.k _ _ ho hg, r.mono t.g⟩
  | B => exact PB.step t h
theorem PK.bl {k : Kd} {G1 H1 : Hp} {v : V} {b : Bool} (h : PK k K G H G1 H1 v (.bl b)) : v = .bl b := by
  have h := h.toB
  rcases h with h | ⟨a, o, rfl, ho, hg, r⟩
  · exact bl_inv h
  · cases r
theorem PK.int {k : Kd} {G1 H1 : Hp} {v : V} {b : Int} (h : PK k K G H G1 H1 v (.int b)) : v = .int b := by
  have h := h.toB
  rcases h with h | ⟨a, o, rfl, ho, hg, r⟩
  · exact int_inv h
  · cases r
theorem want_ok {k : Kd} {z : D} {Q : VK} {v : V} (ok : Ok2 G H) (h : Want W cls K k (.ok z) G H σ Q) (p : PK k K G H G H v z) : Q v H := h v H G (Stp.refl ok) p
theorem want_bool {k : Kd} {f : Bool → R D} {Q : VK} {z : D} (h : Want W cls K k ((asBool z).bind f) G H σ Q) : ∃ b, z = .bl b ∧ Want W cls K k (f b) G H σ Q := by
  cases z with
  | bl b => exact ⟨b, rfl, h⟩
  | _ => exact h.elim
theorem want_str {k : Kd} {f : Str → R D} {Q : VK} {z : D} (h : Want W cls K k ((asStr z).bind f) G H σ Q) : ∃ b, z = .str b ∧ Want W cls K k (f b) G H σ Q := by
  cases z with
  | str b => exact ⟨b, rfl, h⟩
  | _ => exact h.elim
theorem want_int {k : Kd} {f : Int → R D} {Q : VK} {z : D} (h : Want W cls K k ((asInt z).bind f) G H σ Q) : ∃ b, z = .int b ∧ Want W cls K k (f b) G H σ Q := by
  cases z with
  | int b => exact ⟨b, rfl, h⟩
  | _ => exact h.elim
/-- a result that no exception can be -/
theorem want_pure {k : Kd} {r : R D} {Q : VK} (hn : ∀ c, r ≠ .exc c) (h : Want W cls K k r G H σ Q) : ∃ z, r = .ok z ∧ ∀ v H' G', Stp G H G' H' → PK k K G H G' H' v z → Q v H' := by
  cases r with
  | ok z => exact ⟨z, rfl, h⟩
  | exc c => exact absurd rfl (hn c)
  | bad => exact h.elim
theorem nB_ne {x : Ex} (h : nB T x = true) : kd T x ≠ .B := by
  unfold nB at h
  intro e
  rw [e] at h
  cases h
end
theorem ne_guard {α : Type} {b : Bool} {r : R α} (h : ∀ c, r ≠ .exc c) : ∀ c, R.guard b r ≠ .exc c := by
  intro c
  unfold R.guard
  split
  · exact h c
  · exact fun q => nomatch q
theorem ne_bind {α β : Type} {r : R α} {f : α → R β} (h : ∀ c, r ≠ .exc c) (hf : ∀ a c, f a ≠ .exc c) : ∀ c, r.bind f ≠ .exc c := by
  intro c
  cases r with
  | ok a => exact hf a c
  | exc e => exact absurd rfl (h e)
  | bad => exact fun q => nomatch q
theorem ne_ok {α : Type} {a : α} : ∀ c, (R.ok a) ≠ .exc c := fun _ q => nomatch q
theorem ne_bad {α : Type} : ∀ c, (R.bad : R α) ≠ .exc c := fun _ q => nomatch q
theorem binD_ne (o : Bop) (x y : D) : ∀ c, binD o x y ≠ .exc c := by
  unfold binD
  split <;> first | exact ne_ok | exact ne_guard ne_ok | exact ne_bad
theorem eqD_ne (x y : D) : ∀ c, eqD x y ≠ .exc c := by
  unfold eqD; exact ne_guard ne_ok
theorem inD_ne (x y : D) : ∀ c, inD x y ≠ .exc c := by
  unfold inD
  split <;> first | exact ne_guard ne_ok | exact ne_bad | (split <;> first | exact ne_ok | exact ne_bad)
theorem dgD_ne (x y z : D) : ∀ c, dgD x y z ≠ .exc c := by
  unfold dgD
  split <;> first | exact ne_bad | (split <;> first | exact ne_ok | exact ne_bad)
theorem dlD_ne (x y : D) : ∀ c, dlD x y ≠ .exc c := by
  unfold dlD
  split <;> first | exact ne_ok | exact ne_bad
theorem itemsD_ne (x : D) : ∀ c, itemsD x ≠ .exc c := by
  unfold itemsD
  split <;> first | exact ne_ok | exact ne_bad
theorem ltP_ne (x y : D) : ∀ c, ltP x y ≠ .exc c := by
  unfold ltP
  split <;> first | exact ne_ok | exact ne_bad
theorem cmpD_ne (o : Cop) (x y : D) : ∀ c, cmpD o x y ≠ .exc c := by
  unfold cmpD
  split <;> first | exact ne_ok | exact ltP_ne _ _ | exact ne_bind (eqD_ne _ _) fun _ => ne_ok | exact ne_bind (inD_ne _ _) fun _ => ne_ok | exact ne_bad
theorem ixD_ne (x y : D) : ∀ c, ixD x y ≠ .exc c := by
  unfold ixD
  split
  · split <;> first | exact ne_ok | exact ne_bad
  · split <;> first | exact ne_ok | exact ne_bad
  · refine ne_guard ?_
    split <;> first | exact ne_ok | exact ne_bad
  · split <;> first | exact ne_ok | exact ne_bad
  · exact ne_bad
theorem slD_ne (x : D) (lo hi : Option Int) : ∀ c, slD x lo hi ≠ .exc c := by
  unfold slD
  split <;> first | exact ne_ok | exact ne_guard ne_ok | exact ne_bad
theorem someR_ne {α : Type} (o : Option α) : ∀ c, someR o ≠ .exc c := by
  cases o <;> first | exact ne_ok | exact ne_bad
theorem mnP_ne (xs : List D) : ∀ c, mnP xs ≠ .exc c := by
  unfold mnP
  refine ne_bind (someR_ne _) fun a => ?_
  split <;> first | exact ne_ok | exact ne_bad
theorem mn1_ne (xs : List D) : ∀ c, mn1 xs ≠ .exc c := by
  unfold mn1
  split
  · exact mnP_ne _
  · unfold mnI
    refine ne_bind (someR_ne _) fun a => ?_
    split <;> first | exact ne_ok | exact ne_bad
theorem biD_ne (b : Bi) (xs : List D) : ∀ c, biD b xs ≠ .exc c := by
  unfold biD
  split <;> first | exact ne_ok | exact mn1_ne _ | exact ne_guard ne_ok | exact ne_bad | (refine ne_bind (someR_ne _) fun a => ?_; first | exact ne_ok | (split <;> first | exact ne_ok | exact ne_bad)) | (split <;> first | exact ne_ok | exact ne_guard ne_ok | exact ne_bad)
theorem joinD_ne (a : Str) (xs : List D) : ∀ c, joinD a xs ≠ .exc c := by
  unfold joinD
  exact ne_bind (someR_ne _) fun _ => ne_guard ne_ok
theorem tmD_ne (m : Tm) (a : Str) (y : D) : ∀ c, tmD m a y ≠ .exc c := by
  unfold tmD
  split <;> first | exact ne_guard ne_ok | exact ne_ok | exact joinD_ne _ _ | exact ne_bad | (split <;> first | exact ne_ok | exact ne_bad)
theorem isiD_ne (t : Ty) (x : D) : ∀ c, isiD t x ≠ .exc c := by
  cases x <;> simp [isiD]
end Den
namespace Den
open PySem PySem.Spec PyProof.Rows L2
def isBO : Expr → Bool
  | .BoolOp _ _ _ => true
  | _ => false
structure Snd (T : Tbl) (fn : Nat → List D → R D) (W : WX) (cls : Nat → Value) (X : Cx) (x : Ex) (e : Expr) : Prop where
  pe : PE X e (tE T fn W cls X.K x)
  pt : ntI e = true → PT X e (tT T fn W cls X.K x)
  pw : isBO e = true → PW X e (tT T fn W cls X.K x)
section
variable {T : Tbl} {fn : Nat → List D → R D} {W : WX} {cls : Nat → Value} {d : Bool} {sc : Scope} {X : Cx}
theorem pe_imp {e : Expr} {t u : TE} (h : PE X e u) (i : ∀ σ H Q, t σ H Q → u σ H Q) : PE X e t := pe_ex fun σ H Q q => ⟨u, h, i σ H Q q⟩
theorem pt_imp {e : Expr} {t u : TT} (h : PT X e u) (i : ∀ σ H Q, t σ H Q → u σ H Q) : PT X e t := pt_ex fun σ H Q q => ⟨u, h, i σ H Q q⟩
theorem pa_imp {e : List Expr} {t u : TA} (h : PA X e u) (i : ∀ σ H Q, t σ H Q → u σ H Q) : PA X e t := pa_ex fun σ H Q q => ⟨u, h, i σ H Q q⟩
theorem pi_imp {g e : Expr} {t u : TI} (h : PI X g e u) (i : ∀ σ H Q, t σ H Q → u σ H Q) : PI X g e t := pi_ex fun σ H Q q => ⟨u, h, i σ H Q q⟩
theorem pw_imp {e : Expr} {t u : TT} (h : PW X e u) (i : ∀ σ H Q, t σ H Q → u σ H Q) : PW X e t := ⟨fun wh pins s σ H Q I q => h.run wh pins s σ H Q I (i σ H Q q)⟩
/-- a test by the value -/
theorem tT_tB {x : Ex} {σ : L2.St} {H : Hp} {Q : Bool → Hp → Prop} (h : tT T fn W cls X.K x σ H Q) : tB (tE T fn W cls X.K x) σ H Q := by
  obtain ⟨G, ρ, F, h⟩ := h
  refine ⟨G, ρ, F, ?_⟩
  cases e : ev fn x ρ with
  | ok z =>
    rw [e] at h
    cases z with
    | bl b => exact fun v H' G' t p => ⟨b, p.bl, h H' G' t⟩
    | _ => exact h.elim
  | exc c => rw [e] at h; exact h
  | bad => rw [e] at h; exact h
theorem Snd.of {x : Ex} {e : Expr} (pe : PE X e (tE T fn W cls X.K x)) (he : ∀ whole, isTrue e X.env whole = (do let v ← whole; standAt e.pos; holding [v] (truthy v))) (hb : isBO e = false) : Snd T fn W cls X x e :=
  ⟨pe, fun _ => pt_imp (pt_val pe he) fun _ _ _ h => tT_tB h, fun h => by rw [hb] at h; cases h⟩
/-- a comparison -/
theorem Snd.cmp {x : Ex} {e : Expr} {t : TE} (pe : PE X e t) (pt : PT X e (tTest t)) (h : ∀ σ H Q, tE T fn W cls X.K x σ H Q → t σ H Q) (hb : isBO e = false) : Snd T fn W cls X x e :=
  ⟨pe_imp pe h, fun _ => pt_imp pt fun σ H Q q => h σ H _ (tT_tB q), fun h => by rw [hb] at h; cases h⟩
theorem snd_var (C : Ctx T fn W cls d sc X) {i : Nat} {y : Str} {p : Pos} (h1 : T.N[i]? = some y) (h2 : visB sc y = true) (h3 : nmB y = true) : Snd T fn W cls X (.var i) (.Name y p) := by
  obtain ⟨n1, n2, n3⟩ := nmB_ok h3
  refine .of (pe_imp (pe_var (i := i) (by rw [C.hN]; exact h1) (by rw [C.hs]; exact visB_ok h2) n1 n2) fun σ H Q h => ?_) (fun _ => rfl) rfl
  obtain ⟨G, ρ, F, h⟩ := h
  unfold ev getV at h
  cases e : ρ[i]? with
  | none => rw [e] at h; exact h.elim
  | some o =>
    cases o with
    | none => rw [e] at h; exact h.elim
    | some z =>
      rw [e] at h
      obtain ⟨v, e1, p⟩ := F.var e
      refine ⟨v, e1, want_ok F.ok h ?_⟩
      cases ho : T.isOwn i with
      | true =>
        have ek : kd T (.var i) = .B := by show (if T.isOwn i = true then Kd.B else Kd.S) = _; rw [ho]; rfl
        rw [ek]
        exact p
      | false =>
        have ek : kd T (.var i) = .S := by show (if T.isOwn i = true then Kd.B else Kd.S) = _; rw [ho]; rfl
        rw [ek]
        obtain ⟨v', e2, r⟩ := F.sh i z ho e
        rw [e1] at e2
        cases e2
        exact r
theorem snd_cst (C : Ctx T fn W cls d sc X) {z : D} {e : Expr} {v : V} (hp : PE X e (tC v)) (hr : ∀ G, Rp X.K G v z) (he : ∀ whole, isTrue e X.env whole = (do let v ← whole; standAt e.pos; holding [v] (truthy v))) (hb : isBO e = false) : Snd T fn W cls X (.cst z) e := by
  refine .of (pe_imp hp fun σ H Q h => ?_) he hb
  obtain ⟨G, ρ, F, h⟩ := h
  exact want_ok F.ok h (hr G)
theorem snd_gint (C : Ctx T fn W cls d sc X) {y : Str} {i : Int} {p : Pos} (h2 : glB sc y = true) (h3 : nmB y = true) (h4 : (y, GC.int i) ∈ T.cs) : Snd T fn W cls X (.gint y i) (.Name y p) := by
  obtain ⟨n1, n2, n3⟩ := nmB_ok h3
  obtain ⟨t, ht⟩ := C.cs _ h4
  refine .of (pe_imp (pe_glob (glB_ok h2 C.hs) ht (v := .int i) ⟨_, rfl⟩ n1) fun σ H Q h => ?_) (fun _ => rfl) rfl
  obtain ⟨G, ρ, F, h⟩ := h
  exact want_ok (v := .int i) F.ok h (Rp.int i)
theorem snd_gstr (C : Ctx T fn W cls d sc X) {y s : Str} {p : Pos} (h2 : glB sc y = true) (h3 : nmB y = true) (h4 : (y, GC.str s) ∈ T.cs) : Snd T fn W cls X (.gstr y s) (.Name y p) := by
  obtain ⟨n1, n2, n3⟩ := nmB_ok h3
  obtain ⟨t, ht⟩ := C.cs _ h4
  refine .of (pe_imp (pe_glob (glB_ok h2 C.hs) ht (v := .str s) ⟨_, rfl⟩ n1) fun σ H Q h => ?_) (fun _ => rfl) rfl
  obtain ⟨G, ρ, F, h⟩ := h
  exact want_ok (v := .str s) F.ok h (Rp.str s)
theorem strs_rp {K : PySem.W.Frag} {G : Hp} : ∀ ws : List Str, RpL K G (ws.map V.str) (ws.map Den.D.str)
  | [] => .nil
  | w :: r => .cons (.str w) (strs_rp r)
theorem snd_gwds (C : Ctx T fn W cls d sc X) {y : Str} {ws : List Str} {p : Pos} (h2 : glB sc y = true) (h3 : nmB y = true) (h4 : (y, GC.wds ws) ∈ T.cs) : Snd T fn W cls X (.gwds y ws) (.Name y p) := by
  obtain ⟨n1, n2, n3⟩ := nmB_ok h3
  obtain ⟨a, ha, hs⟩ := C.cs _ h4
  refine .of (pe_imp (pe_glob (glB_ok h2 C.hs) ha (v := .ref a) rfl n1) fun σ H Q h => ?_) (fun _ => rfl) rfl
  obtain ⟨G, ρ, F, h⟩ := h
  exact want_ok (v := .ref a) F.ok h (Rp.tup (hs G) (strs_rp ws))
/-- two expressions and an operator -/
theorem tOp_of {a b : Ex} {k : Kd} {f : D → D → R D} {r : R2} {σ : L2.St} {H G : Hp} {ρ : Env} {Q : VK} (F : FI X.K T.isOwn G ρ σ H) (hn : ∀ x y c, f x y ≠ .exc c)
    (hr : ∀ (G H : Hp) (x y : V) (d e z : D) (Q : VK), Ok2 G H → PB X.K G H x d → PB X.K G H y e → f d e = .ok z → (∀ v H' G', Stp G H G' H' → PK k X.K G H G' H' v z → Q v H') → r x y H Q)
    (h : Want W cls X.K k ((ev fn a ρ).bind fun x => (ev fn b ρ).bind fun y => f x y) G H σ Q) : tOp r (tE T fn W cls X.K a) (tE T fn W cls X.K b) σ H Q := by
  refine seqE F h fun z1 v1 H1 G1 _ t1 F1 p1 h1 => ?_
  refine seqE F1 h1 fun z2 v2 H2 G2 _ t2 F2 p2 h2 => ?_
  obtain ⟨z, hz, q⟩ := want_pure (hn z1 z2) h2
  exact hr G2 H2 v1 v2 z1 z2 z Q F2.ok (p1.toB.step t2) p2.toB hz q
theorem snd_bin (C : Ctx T fn W cls d sc X) {o : Bop} {a b : Ex} {l r : Expr} {p : Pos} (ha : Snd T fn W cls X a l) (hb : Snd T fn W cls X b r) : Snd T fn W cls X (.bin o a b) (.BinOp l o.py r p) := by
  obtain ⟨R, hR, hq⟩ := opD_bin (X := X) o
  refine .of (pe_imp (pe_op hR ha.pe hb.pe) fun σ H Q h => ?_) (fun _ => rfl) rfl
  obtain ⟨G, ρ, F, h⟩ := h
  exact tOp_of (k := .S) F (binD_ne o) hq h
theorem snd_neg (C : Ctx T fn W cls d sc X) {a : Ex} {l : Expr} {p : Pos} (ha : Snd T fn W cls X a l) : Snd T fn W cls X (.neg a) (.UnaryOp .USub l p) := by
  refine .of (pe_imp (pe_un un_neg ha.pe) fun σ H Q h => ?_) (fun _ => rfl) rfl
  obtain ⟨G, ρ, F, h⟩ := h
  refine seqE F h fun z1 v1 H1 G1 _ t1 F1 p1 h1 => ?_
  obtain ⟨i, rfl, h1⟩ := want_int h1
  exact ⟨i, p1.int, want_ok (v := .int (-i)) F1.ok h1 (Rp.int _)⟩
theorem snd_cmp (C : Ctx T fn W cls d sc X) {o : Cop} {a b : Ex} {l r : Expr} {p : Pos} (hm : behindInMarks o.py r = false) (ha : Snd T fn W cls X a l) (hb : Snd T fn W cls X b r) : Snd T fn W cls X (.cmp o a b) (.Compare l [o.py] [r] p) := by
  obtain ⟨R, hR, hq⟩ := opD_cmp (X := X) C.un o
  refine .cmp (pe_cmpR hR ha.pe hb.pe hm) (pt_cmpR hR ha.pe hb.pe hm) (fun σ H Q h => ?_) rfl
  obtain ⟨G, ρ, F, h⟩ := h
  exact tOp_of (k := .S) F (cmpD_ne o) hq h
theorem snd_isN (C : Ctx T fn W cls d sc X) {a : Ex} {l : Expr} {p p2 : Pos} {j : Nat} (ha : Snd T fn W cls X a l) : Snd T fn W cls X (.isN a) (.Compare l [.Is] [.Constant .none j p2] p) := by
  refine .cmp (pe_cmpR op_isN ha.pe pe_non rfl) (pt_cmpR op_isN ha.pe pe_non rfl) (fun σ H Q h => ?_) rfl
  obtain ⟨G, ρ, F, h⟩ := h
  refine seqE F h fun z1 v1 H1 G1 _ t1 F1 p1 h1 => ?_
  refine ⟨rfl, ?_⟩
  rw [isNon_iff (p1.toB.rd F1.sub)]
  exact want_ok (v := .bl _) F1.ok h1 (Rp.bl _)
theorem snd_notN (C : Ctx T fn W cls d sc X) {a : Ex} {l : Expr} {p p2 : Pos} {j : Nat} (ha : Snd T fn W cls X a l) : Snd T fn W cls X (.notN a) (.Compare l [.IsNot] [.Constant .none j p2] p) := by
  refine .cmp (pe_cmpR op_notN ha.pe pe_non rfl) (pt_cmpR op_notN ha.pe pe_non rfl) (fun σ H Q h => ?_) rfl
  obtain ⟨G, ρ, F, h⟩ := h
  refine seqE F h fun z1 v1 H1 G1 _ t1 F1 p1 h1 => ?_
  refine ⟨rfl, ?_⟩
  rw [isNon_iff (p1.toB.rd F1.sub)]
  exact want_ok (v := .bl _) F1.ok h1 (Rp.bl _)
theorem snd_chain (C : Ctx T fn W cls d sc X) {o o' : Cop} {a b c : Ex} {l m r : Expr} {p : Pos} (hm : lastMarks [o.py, o'.py] [m, r] = false) (ha : Snd T fn W cls X a l) (hb : Snd T fn W cls X b m) (hc : Snd T fn W cls X c r) :
    Snd T fn W cls X (.chain o o' a b c) (.Compare l [o.py, o'.py] [m, r] p) := by
  obtain ⟨R1, hR1, hq1⟩ := opD_cmp (X := X) C.un o
  obtain ⟨R2, hR2, hq2⟩ := opD_cmp (X := X) C.un o'
  refine .cmp (pe_chain hR1 hR2 ha.pe hb.pe hc.pe hm) (pt_chain hR1 hR2 ha.pe hb.pe hc.pe hm) (fun σ H Q h => ?_) rfl
  obtain ⟨G, ρ, F, h⟩ := h
  refine seqE F h fun z1 v1 H1 G1 _ t1 F1 p1 h1 => ?_
  refine seqE F1 h1 fun z2 v2 H2 G2 _ t2 F2 p2 h2 => ?_
  have p1 := p1.toB.step t2
  have p2 := p2.toB
  cases e : cmpD o z1 z2 with
  | exc c => exact absurd e (cmpD_ne o z1 z2 c)
  | bad => rw [e] at h2; exact h2.elim
  | ok t =>
    rw [e] at h2
    obtain ⟨k, rfl, h2⟩ := want_bool h2
    refine hq1 G2 H2 v1 v2 z1 z2 _ _ F2.ok p1 p2 e fun v H3 G3 t3 r3 => ?_
    refine ⟨k, bl_inv r3, ?_⟩
    have F3 := F2.step t3
    have h3 := Want.shift t3 h2
    cases k with
    | false => exact want_ok (v := .bl false) F3.ok h3 (Rp.bl _)
    | true =>
      refine seqE F3 h3 fun z4 v4 H4 G4 _ t4 F4 p4 h4 => ?_
      obtain ⟨z, hz, q⟩ := want_pure (cmpD_ne o' z2 z4) h4
      exact hq2 G4 H4 v2 v4 z2 z4 z Q F4.ok ((p2.step t3).step t4) p4.toB hz q
/-- and, or -/
theorem snd_and (C : Ctx T fn W cls d sc X) {a b : Ex} {x y : Expr} {r : List Expr} {p : Pos} (ha : Snd T fn W cls X a x) (nx : ntI x = true)
    (hb : (∃ e, Snd T fn W cls X b e ∧ r = [] ∧ e = y ∧ ntI y = true) ∨ (∃ e, Snd T fn W cls X b e ∧ e = .BoolOp .And (y :: r) p)) : Snd T fn W cls X (.and_ a b) (.BoolOp .And (x :: y :: r) p) := by
  have hpe : PE X (.BoolOp .And (y :: r) p) (tE T fn W cls X.K b) := by
    rcases hb with ⟨e, h, rfl, rfl, _⟩ | ⟨e, h, rfl⟩
    · exact pe_one h.pe
    · exact h.pe
  have hpw : PW X (.BoolOp .And (y :: r) p) (tT T fn W cls X.K b) := by
    rcases hb with ⟨e, h, rfl, rfl, n⟩ | ⟨e, h, rfl⟩
    · exact pw_and1 (h.pt n)
    · exact h.pw rfl
  have w : PW X (.BoolOp .And (x :: y :: r) p) (tT T fn W cls X.K (.and_ a b)) := by
    refine pw_imp (pw_and (ha.pt nx) hpw) fun σ H Q h => ?_
    obtain ⟨G, ρ, F, h⟩ := h
    refine seqTT F h fun k H1 G1 t1 F1 h1 => ?_
    cases k with
    | true =>
      rw [if_pos rfl]
      refine seqTT F1 h1 fun k2 H2 G2 t2 F2 h2 => h2 H2 G2 (Stp.refl F2.ok)
    | false =>
      rw [if_neg Bool.false_ne_true]
      exact h1 H1 G1 (Stp.refl F1.ok)
  refine ⟨pe_imp (pe_and ha.pe hpe) fun σ H Q h => ?_, fun _ => w.pt, fun _ => w⟩
  obtain ⟨G, ρ, F, h⟩ := h
  refine seqE F h fun z1 v1 H1 G1 _ t1 F1 p1 h1 => ?_
  obtain ⟨k, rfl, h1⟩ := want_bool h1
  refine ⟨k, p1.bl, ?_⟩
  cases k with
  | true =>
    rw [if_pos rfl]
    refine seqE F1 h1 fun z2 v2 H2 G2 _ t2 F2 p2 h2 => ?_
    obtain ⟨k2, rfl, h2⟩ := want_bool h2
    rw [p2.bl]
    exact want_ok (v := .bl _) F2.ok h2 (Rp.bl _)
  | false =>
    rw [if_neg Bool.false_ne_true]
    exact want_ok (v := .bl _) F1.ok h1 (Rp.bl _)
theorem snd_or (C : Ctx T fn W cls d sc X) {a b : Ex} {x y : Expr} {r : List Expr} {p : Pos} (ha : Snd T fn W cls X a x) (nx : ntI x = true)
    (hb : (∃ e, Snd T fn W cls X b e ∧ r = [] ∧ e = y ∧ ntI y = true) ∨ (∃ e, Snd T fn W cls X b e ∧ e = .BoolOp .Or (y :: r) p)) : Snd T fn W cls X (.or_ a b) (.BoolOp .Or (x :: y :: r) p) := by
  have hpe : PE X (.BoolOp .Or (y :: r) p) (tE T fn W cls X.K b) := by
    rcases hb with ⟨e, h, rfl, rfl, _⟩ | ⟨e, h, rfl⟩
    · exact pe_one h.pe
    · exact h.pe
  have hpw : PW X (.BoolOp .Or (y :: r) p) (tT T fn W cls X.K b) := by
    rcases hb with ⟨e, h, rfl, rfl, n⟩ | ⟨e, h, rfl⟩
    · exact pw_or1 (h.pt n)
    · exact h.pw rfl
  have w : PW X (.BoolOp .Or (x :: y :: r) p) (tT T fn W cls X.K (.or_ a b)) := by
    refine pw_imp (pw_or (ha.pt nx) hpw) fun σ H Q h => ?_
    obtain ⟨G, ρ, F, h⟩ := h
    refine seqTT F h fun k H1 G1 t1 F1 h1 => ?_
    cases k with
    | true =>
      rw [if_pos rfl]
      exact h1 H1 G1 (Stp.refl F1.ok)
    | false =>
      rw [if_neg Bool.false_ne_true]
      refine seqTT F1 h1 fun k2 H2 G2 t2 F2 h2 => h2 H2 G2 (Stp.refl F2.ok)
  refine ⟨pe_imp (pe_or ha.pe hpe) fun σ H Q h => ?_, fun _ => w.pt, fun _ => w⟩
  obtain ⟨G, ρ, F, h⟩ := h
  refine seqE F h fun z1 v1 H1 G1 _ t1 F1 p1 h1 => ?_
  obtain ⟨k, rfl, h1⟩ := want_bool h1
  refine ⟨k, p1.bl, ?_⟩
  cases k with
  | false =>
    rw [if_neg Bool.false_ne_true]
    refine seqE F1 h1 fun z2 v2 H2 G2 _ t2 F2 p2 h2 => ?_
    obtain ⟨k2, rfl, h2⟩ := want_bool h2
    rw [p2.bl]
    exact want_ok (v := .bl _) F2.ok h2 (Rp.bl _)
  | true =>
    rw [if_pos rfl]
    exact want_ok (v := .bl _) F1.ok h1 (Rp.bl _)
theorem snd_not (C : Ctx T fn W cls d sc X) {a : Ex} {l : Expr} {p : Pos} (ha : Snd T fn W cls X a l) (nl : ntI l = true) : Snd T fn W cls X (.not_ a) (.UnaryOp .Not l p) := by
  refine ⟨pe_imp (pe_not ha.pe) fun σ H Q h => ?_, fun _ => pt_imp (pt_not (ha.pt nl)) fun σ H Q h => ?_, fun h => nomatch h⟩
  · obtain ⟨G, ρ, F, h⟩ := h
    refine seqE F h fun z1 v1 H1 G1 _ t1 F1 p1 h1 => ?_
    obtain ⟨k, rfl, h1⟩ := want_bool h1
    exact ⟨k, p1.bl, want_ok (v := .bl _) F1.ok h1 (Rp.bl _)⟩
  · obtain ⟨G, ρ, F, h⟩ := h
    exact seqTT F h fun k H1 G1 t1 F1 h1 => h1 H1 G1 (Stp.refl F1.ok)
theorem tE_S {x : Ex} {σ : L2.St} {H G : Hp} {ρ : Env} {Q : VK} (hk : nB T x = true) (F : FI X.K T.isOwn G ρ σ H) (h : Want W cls X.K .S (ev fn x ρ) G H σ Q) : tE T fn W cls X.K x σ H Q := by
  refine ⟨G, ρ, F, ?_⟩
  cases e : ev fn x ρ with
  | ok z =>
    rw [e] at h
    intro v H' G' t p
    obtain ⟨G3, t3, r⟩ := p.toS (nB_ne hk) t
    exact h v H' G3 t3 r
  | exc c => rw [e] at h; exact h
  | bad => rw [e] at h; exact h
theorem snd_ite (C : Ctx T fn W cls d sc X) {c a b : Ex} {t l r : Expr} {p : Pos} (hc : Snd T fn W cls X c t) (nt : ntI t = true) (ha : Snd T fn W cls X a l) (hb : Snd T fn W cls X b r) (na : nB T a = true) (nb : nB T b = true) :
    Snd T fn W cls X (.ite c a b) (.IfExp t l r p) := by
  refine ⟨pe_imp (pe_ifExp (hc.pt nt) ha.pe hb.pe) fun σ H Q h => ?_, (fun h => nomatch h), (fun h => nomatch h)⟩
  obtain ⟨G, ρ, F, h⟩ := h
  have h' : Want W cls X.K .S ((ev fn c ρ).bind fun x => (asBool x).bind fun k => if k then ev fn a ρ else ev fn b ρ) G H σ Q := h
  unfold tIf
  refine ⟨G, ρ, F, ?_⟩
  cases e : ev fn c ρ with
  | exc c' => rw [e] at h'; exact h'
  | bad => rw [e] at h'; exact h'
  | ok z =>
    rw [e] at h'
    obtain ⟨k, rfl, h2⟩ := want_bool h'
    intro H1 G1 t1
    have F1 := F.step t1
    have h3 := Want.shift t1 h2
    cases k with
    | true => exact tE_S na F1 h3
    | false => exact tE_S nb F1 h3
theorem pa_none (s : Bool) : PA X [] (tL T fn W cls X.K s .nil) := by
  refine pa_imp pa_nil fun σ H Q h => ?_
  obtain ⟨G, ρ, F, h⟩ := h
  refine h [] H G (Stp.refl F.ok) ?_
  cases s
  · exact .nil
  · exact .nil
theorem pa_some {s : Bool} {a : Ex} {r : Exs} {e : Expr} {es : List Expr} (ha : Snd T fn W cls X a e) (hp : plE e = true) (hn : s = true → nB T a = true) (hr : PA X es (tL T fn W cls X.K s r)) : PA X (e :: es) (tL T fn W cls X.K s (.cons a r)) := by
  refine pa_imp (pa_cons ha.pe hr (plE_star hp)) fun σ H Q h => ?_
  obtain ⟨G, ρ, F, h⟩ := h
  have h' : WantL W cls X.K s ((ev fn a ρ).bind fun x => (evs fn r ρ).bind fun xs => .ok (x :: xs)) G H σ Q := h
  refine ⟨G, ρ, F, ?_⟩
  cases e1 : ev fn a ρ with
  | exc c' => rw [e1] at h'; exact h'
  | bad => rw [e1] at h'; exact h'
  | ok z =>
    rw [e1] at h'
    intro v H1 G1 t1 p1
    have go : ∀ G1', Stp G H G1' H1 → (if s then Rp X.K G1' v z else PB X.K G1' H1 v z) → tL T fn W cls X.K s r σ H1 fun xs H2 => Q (v :: xs) H2 := fun G1' t1 p1 => by
      have F1 := F.step t1
      have h2 := WantL.shift t1 h'
      refine ⟨G1', ρ, F1, ?_⟩
      cases e2 : evs fn r ρ with
      | exc c' => rw [e2] at h2; exact h2
      | bad => rw [e2] at h2; exact h2
      | ok zs =>
        rw [e2] at h2
        intro vs H2 G2 t2 p2
        refine h2 (v :: vs) H2 G2 t2 ?_
        cases s
        · exact .cons (PB.step t2 p1) p2
        · exact .cons (Rp.mono t2.g p1) p2
    cases s with
    | false => exact go G1 t1 p1.toB
    | true =>
      obtain ⟨G3, t3, r3⟩ := p1.toS (nB_ne (hn rfl)) t1
      exact go G3 t3 r3
theorem snd_tup (C : Ctx T fn W cls d sc X) {es : Exs} {l : List Expr} {n : Nat} {p : Pos} (ha : PA X l (tL T fn W cls X.K true es)) (hl : l.length ≤ Line) (hlen : ∀ ρ zs, evs fn es ρ = .ok zs → zs.length = l.length) : Snd T fn W cls X (.tup es) (.Tuple l n p) := by
  refine .of (pe_imp (pe_tup ha) fun σ H Q h => ?_) (fun _ => rfl) rfl
  obtain ⟨G, ρ, F, h⟩ := h
  refine seqL F h fun zs vs H1 G1 e t1 F1 p1 h1 => ?_
  have p1 : RpL X.K G1 vs zs := p1
  have hz := hlen ρ zs e
  refine ⟨by rw [p1.len, hz, sizeLn]; exact hl, ?_⟩
  exact newS F1.ok (fun v H' G' t r => h1 v H' G' t r) fun a ha => .tup (SqT.of upd_same) (p1.mono (same_upd ha))
theorem snd_lst (C : Ctx T fn W cls d sc X) {es : Exs} {l : List Expr} {p : Pos} (ha : PA X l (tL T fn W cls X.K true es)) (hl : l.length ≤ Line) (hlen : ∀ ρ zs, evs fn es ρ = .ok zs → zs.length = l.length) : Snd T fn W cls X (.lst es) (.List l p) := by
  refine .of (pe_imp (pe_lst ha) fun σ H Q h => ?_) (fun _ => rfl) rfl
  obtain ⟨G, ρ, F, h⟩ := h
  refine seqL F h fun zs vs H1 G1 e t1 F1 p1 h1 => ?_
  have p1 : RpL X.K G1 vs zs := p1
  have hz := hlen ρ zs e
  refine ⟨by rw [p1.len, hz, sizeLn]; exact hl, ?_⟩
  exact newT F1.ok (o := .lst _) trivial (fun v H' G' t r => h1 v H' G' t r) (.lst p1)
theorem evs_len : ∀ {es : Exs} {l : List Expr} {s : Bool} {ρ : Env} {zs : List D}, mEs T s es sc l = true → evs fn es ρ = .ok zs → zs.length = l.length
  | .nil, l, s, ρ, zs, h, e => by
    cases l with
    | nil => cases e; rfl
    | cons _ _ => cases h
  | .cons a r, l, s, ρ, zs, h, e => by
    cases l with
    | nil => cases h
    | cons x es =>
      unfold mEs at h
      rw [Bool.and_eq_true] at h
      unfold evs at e
      obtain ⟨z, e1, e2⟩ := bind_okE e
      obtain ⟨ws, e3, e4⟩ := bind_okE e2
      cases e4
      rw [List.length_cons, List.length_cons, evs_len h.2 e3]
theorem snd_ix (C : Ctx T fn W cls d sc X) {a b : Ex} {l r : Expr} {p : Pos} (ha : Snd T fn W cls X a l) (hb : Snd T fn W cls X b r) (hp : plE r = true) : Snd T fn W cls X (.ix a b) (.Subscript l r p) := by
  obtain ⟨R, hR, hq⟩ := ixD_ok (X := X) C.un
  refine .of (pe_imp (pe_ix hR ha.pe hb.pe (plE_ix hp)) fun σ H Q h => ?_) (fun _ => rfl) rfl
  obtain ⟨G, ρ, F, h⟩ := h
  exact tOp_of (k := .S) F ixD_ne hq h
theorem snd_slF (C : Ctx T fn W cls d sc X) {a lo : Ex} {l r : Expr} {p p2 : Pos} (ha : Snd T fn W cls X a l) (hb : Snd T fn W cls X lo r) : Snd T fn W cls X (.slF a lo) (.Subscript l (.Slice (some r) none none p2) p) := by
  obtain ⟨R, hR, hq⟩ := slD_ok (X := X)
  refine .of (pe_imp (pe_slice hR ha.pe (po_some hb.pe) po_none) fun σ H Q h => ?_) (fun _ => rfl) rfl
  obtain ⟨G, ρ, F, h⟩ := h
  refine seqE F h fun z1 v1 H1 G1 _ t1 F1 p1 h1 => ?_
  refine seqE F1 h1 fun z2 v2 H2 G2 _ t2 F2 p2 h2 => ?_
  obtain ⟨i, rfl, h2⟩ := want_int h2
  obtain ⟨z, hz, q⟩ := want_pure (slD_ne z1 (some i) none) h2
  exact ⟨i, p2.int, hq G2 H2 v1 (some i) none z1 z Q F2.ok (p1.toB.step t2) hz q⟩
theorem snd_slT (C : Ctx T fn W cls d sc X) {a lo : Ex} {l r : Expr} {p p2 : Pos} (ha : Snd T fn W cls X a l) (hb : Snd T fn W cls X lo r) : Snd T fn W cls X (.slT a lo) (.Subscript l (.Slice none (some r) none p2) p) := by
  obtain ⟨R, hR, hq⟩ := slD_ok (X := X)
  refine .of (pe_imp (pe_slice hR ha.pe po_none (po_some hb.pe)) fun σ H Q h => ?_) (fun _ => rfl) rfl
  obtain ⟨G, ρ, F, h⟩ := h
  refine seqE F h fun z1 v1 H1 G1 _ t1 F1 p1 h1 => ?_
  refine seqE F1 h1 fun z2 v2 H2 G2 _ t2 F2 p2 h2 => ?_
  obtain ⟨i, rfl, h2⟩ := want_int h2
  obtain ⟨z, hz, q⟩ := want_pure (slD_ne z1 none (some i)) h2
  exact ⟨i, p2.int, hq G2 H2 v1 none (some i) z1 z Q F2.ok (p1.toB.step t2) hz q⟩
theorem snd_slB (C : Ctx T fn W cls d sc X) {a lo hi : Ex} {l m r : Expr} {p p2 : Pos} (ha : Snd T fn W cls X a l) (hb : Snd T fn W cls X lo m) (hc : Snd T fn W cls X hi r) : Snd T fn W cls X (.slB a lo hi) (.Subscript l (.Slice (some m) (some r) none p2) p) := by
  obtain ⟨R, hR, hq⟩ := slD_ok (X := X)
  refine .of (pe_imp (pe_slice hR ha.pe (po_some hb.pe) (po_some hc.pe)) fun σ H Q h => ?_) (fun _ => rfl) rfl
  obtain ⟨G, ρ, F, h⟩ := h
  refine seqE F h fun z1 v1 H1 G1 _ t1 F1 p1 h1 => ?_
  refine seqE F1 h1 fun z2 v2 H2 G2 _ t2 F2 p2 h2 => ?_
  obtain ⟨i, rfl, h2⟩ := want_int h2
  refine ⟨i, p2.int, ?_⟩
  refine seqE F2 h2 fun z3 v3 H3 G3 _ t3 F3 p3 h3 => ?_
  obtain ⟨j, rfl, h3⟩ := want_int h3
  obtain ⟨z, hz, q⟩ := want_pure (slD_ne z1 (some i) (some j)) h3
  exact ⟨j, p3.int, hq G3 H3 v1 (some i) (some j) z1 z Q F3.ok ((p1.toB.step t2).step t3) hz q⟩
end
end Den
namespace Den
open PySem PySem.Spec PyProof.Rows L2
section
variable {T : Tbl} {fn : Nat → List D → R D} {W : WX} {cls : Nat → Value} {d : Bool} {sc : Scope} {X : Cx}
theorem blt_ok (C : Ctx T fn W cls d sc X) {x : Str} (h : blt T sc x = true) : Gl X x ∧ X.mg x = none ∧ x ≠ "__name__" ∧ (x == ("__debug__" : Str)) = false := by
  unfold blt at h
  rw [Bool.and_eq_true, Bool.and_eq_true, decide_eq_true_eq] at h
  obtain ⟨n1, n2, n3⟩ := nmB_ok h.1.2
  exact ⟨glB_ok h.1.1 C.hs, C.bt _ h.2, n3, n1⟩
theorem boot_bi (b : Bi) : bootBuiltins b.nm = some b.val := by
  cases b <;> decide +kernel
theorem mEs_pl : ∀ {es : Exs} {l : List Expr} {s : Bool}, mEs T s es sc l = true → ∀ e ∈ l, plE e = true
  | .nil, l, s, h => by
    cases l with
    | nil => simp
    | cons _ _ => cases h
  | .cons a r, l, s, h => by
    cases l with
    | nil => cases h
    | cons x es =>
      unfold mEs at h
      rw [Bool.and_eq_true, Bool.and_eq_true, Bool.and_eq_true] at h
      intro e he
      rcases List.mem_cons.mp he with q | q
      · rw [q]; exact h.1.1.2
      · exact mEs_pl h.2 e q
theorem snd_bi (C : Ctx T fn W cls d sc X) {b : Bi} {es : Exs} {l : Expr} {ls : List Expr} {p p2 : Pos} (hb : blt T sc b.nm = true) (ha : PA X (l :: ls) (tL T fn W cls X.K false es)) (hp : ∀ e ∈ l :: ls, plE e = true) :
    Snd T fn W cls X (.bi b es) (.Call (.Name b.nm p) (l :: ls) [] p2) := by
  obtain ⟨g1, g2, g3, g4⟩ := blt_ok C hb
  obtain ⟨R, hR, hq⟩ := callD_bi (X := X) C.calm C.un b
  have go : ∀ σ H Q, tE T fn W cls X.K (.bi b es) σ H Q → tCB R (tL T fn W cls X.K false es) σ H Q := fun σ H Q h => by
    obtain ⟨G, ρ, F, h⟩ := h
    refine seqL F h fun zs vs H1 G1 e t1 F1 p1 h1 => ?_
    obtain ⟨z, hz, q⟩ := want_pure (biD_ne b zs) h1
    exact hq G1 H1 vs zs z Q F1.ok p1 hz q
  have hst := plE_star (es := ls) (env := X.env) (hp l (by simp))
  have hpl : (backTo p2 (starEach ls X.env)).any (·.1) = false := any_back fun e he => hp e (List.mem_cons_of_mem _ he)
  have hboot := boot_bi b
  cases hv : b.val with
  | builtin id =>
    rw [hv] at hR hboot
    exact .of (pe_imp (pe_callB hR g1 g2 hboot ha g3 g4 hst hpl) go) (fun _ => rfl) rfl
  | type id =>
    rw [hv] at hR hboot
    exact .of (pe_imp (pe_callTy hR g1 g2 hboot ha g3 g4 hst hpl) go) (fun _ => rfl) rfl
  | _ => cases b <;> cases hv
theorem kit_isi {z : D} {t : Ty} {b : Bool} (h : isiD t z = .ok b) : kitB (tyD z) t.id = some b := by
  have k1 : ∀ t : Ty, kitB "NoneType" t.id = some false := by intro t; cases t <;> decide +kernel
  have k2 : ∀ t : Ty, kitB "bool" t.id = some (match t with | .int => true | .bool => true | _ => false) := by intro t; cases t <;> decide +kernel
  have k3 : ∀ t : Ty, kitB "int" t.id = some (match t with | .int => true | _ => false) := by intro t; cases t <;> decide +kernel
  have k4 : ∀ t : Ty, kitB "str" t.id = some (match t with | .str => true | _ => false) := by intro t; cases t <;> decide +kernel
  have k5 : ∀ t : Ty, kitB "tuple" t.id = some (match t with | .tuple => true | _ => false) := by intro t; cases t <;> decide +kernel
  have k6 : ∀ t : Ty, kitB "list" t.id = some (match t with | .list => true | _ => false) := by intro t; cases t <;> decide +kernel
  cases z with
  | non => cases h; exact k1 t
  | bl b => cases h; exact k2 t
  | int b => cases h; exact k3 t
  | str b => cases h; exact k4 t
  | tup b => cases h; exact k5 t
  | lst b => cases h; exact k6 t
  | dct f ks vs => cases h
  | dcT ks vs => cases h
  | obj c fs => cases h
theorem boot_ty (t : Ty) : bootBuiltins t.nm = some (.type t.id) := by
  cases t <;> decide +kernel
theorem snd_isi (C : Ctx T fn W cls d sc X) {a : Ex} {t : Ty} {l : Expr} {p p2 p3 : Pos} (h1 : blt T sc "isinstance" = true) (h2 : blt T sc t.nm = true) (ha : Snd T fn W cls X a l) (hl : plE l = true) :
    Snd T fn W cls X (.isi a t) (.Call (.Name "isinstance" p) [l, .Name t.nm p3] [] p2) := by
  obtain ⟨g1, g2, g3, g4⟩ := blt_ok C h1
  obtain ⟨k1, k2, k3, k4⟩ := blt_ok C h2
  have hty : PE X (.Name t.nm p3) (tC (.ty t.id)) := pe_bltn k1 k2 (boot_ty t) rfl k3 k4
  refine .of (pe_imp (pe_callB call_isi g1 g2 (by decide +kernel) (pa_cons ha.pe (pa_cons hty pa_nil) (plE_star hl)) g3 g4 (plE_star hl) rfl) fun σ H Q h => ?_) (fun _ => rfl) rfl
  obtain ⟨G, ρ, F, h⟩ := h
  refine seqE F h fun z1 v1 H1 G1 _ t1 F1 p1 h1 => ?_
  cases e : isiD t z1 with
  | exc c => exact absurd e (isiD_ne t z1 c)
  | bad => rw [e] at h1; exact h1.elim
  | ok b =>
    rw [e] at h1
    refine ⟨v1, .ty t.id, .type (tyD z1), .type t.id, b, rfl, .ty _, ty_of (p1.toB.rd F1.sub) ⟨fun f ks vs q => ?_, fun ks vs q => ?_, fun c fs q => ?_⟩, kit_ty (kit_isi e), want_ok (v := .bl b) F1.ok h1 (Rp.bl b)⟩
    · subst q
      cases t <;> cases e
    · subst q
      cases t <;> cases e
    · subst q
      cases t <;> cases e
theorem want_fr {f : Nat} {x : Str} {n : Nat} {fr : Bool} {es : Exs} (h : T.fns.lookup f = some (x, n, fr)) : kd T (.call f es) = if fr then .T else .S := by
  show (match T.fns.lookup f with | some (_, _, true) => Kd.T | _ => Kd.S) = _
  rw [h]
  cases fr <;> rfl
theorem snd_call (C : Ctx T fn W cls d sc X) {f : Nat} {x : Str} {n : Nat} {fr : Bool} {es : Exs} {l : Expr} {ls : List Expr} {p p2 : Pos} (hf : T.fns.lookup f = some (x, n, fr)) (hl : (l :: ls).length = n) (h1 : glB sc x = true) (h2 : nmB x = true)
    (ha : PA X (l :: ls) (tL T fn W cls X.K true es)) (hlen : ∀ ρ zs, evs fn es ρ = .ok zs → zs.length = (l :: ls).length) (hp : ∀ e ∈ l :: ls, plE e = true) : Snd T fn W cls X (.call f es) (.Call (.Name x p) (l :: ls) [] p2) := by
  obtain ⟨n1, n2, n3⟩ := nmB_ok h2
  obtain ⟨fa, fd, ps, k, hF, hr, hm, hk, hb⟩ := (C.fns f x n fr hf).ex
  have hst := plE_star (es := ls) (env := X.env) (hp l (by simp))
  have hpl : (backTo p2 (starEach ls X.env)).any (·.1) = false := any_back fun e he => hp e (List.mem_cons_of_mem _ he)
  refine .of (pe_imp (pe_callS hF hr (glB_ok h1 C.hs) hm hk hb (fun σ => passAt C.tk σ) ha n1 hst hpl) fun σ H Q h => ?_) (fun _ => rfl) rfl
  obtain ⟨G, ρ, F, h⟩ := h
  rw [want_fr hf] at h
  refine seqL F h fun zs vs H1 G1 e t1 F1 p1 h1 => ?_
  have p1 : RpL X.K G1 vs zs := p1
  refine ⟨by rw [p1.len, hlen ρ zs e]; exact hl, G1, zs, F1.ok, p1, ?_⟩
  cases e2 : fn f zs with
  | ok z => rw [e2] at h1; exact h1
  | exc c => rw [e2] at h1; exact h1
  | bad => rw [e2] at h1; exact h1
/-- the heap without what was own -/
def maskH (G H G2 : Hp) : Hp := fun b => match G b, H b with
  | none, some _ => none
  | _, _ => G2 b
mutual
theorem flat_mask {K : PySem.W.Frag} {G2 G' : Hp} (hs : ∀ a xs, SqT K G2 a xs → SqT K G' a xs) : ∀ {v : V} {z : D}, Rp K G2 v z → z.flat = true → Rp K G' v z
  | _, _, .non, _ => .non
  | _, _, .bl b, _ => .bl b
  | _, _, .int i, _ => .int i
  | _, _, .str x, _ => .str x
  | _, .tup ds, .tup h l, f => .tup (hs _ _ h) (flatL_mask hs l (by rw [D.flat] at f; exact f))
  | _, _, .lst h l, f => by simp [D.flat] at f
  | _, _, .dct h l, f => by simp [D.flat] at f
  | _, _, .dctL h l, f => by simp [D.flat] at f
  | _, _, .dcT h l, f => by simp [D.flat] at f
  | _, _, .obj _ _ _ l, f => by simp [D.flat] at f
theorem flatL_mask {K : PySem.W.Frag} {G2 G' : Hp} (hs : ∀ a xs, SqT K G2 a xs → SqT K G' a xs) : ∀ {v : List V} {z : List D}, RpL K G2 v z → D.flatL z = true → RpL K G' v z
  | _, _, .nil, _ => .nil
  | _, d :: ds, .cons h l, f => by
    rw [D.flatL, Bool.and_eq_true] at f
    exact .cons (flat_mask hs h f.1) (flatL_mask hs l f.2)
end
theorem mask_stp {K : PySem.W.Frag} {G H G2 H2 : Hp} (ok : Ok2 G H) (t : Stp H H G2 H2) : Stp G H (maskH G H G2) H2 ∧ ∀ a xs, SqT K G2 a xs → SqT K (maskH G H G2) a xs := by
  have get : ∀ b o, maskH G H G2 b = some o → G2 b = some o := fun b o e => by
    unfold maskH at e
    split at e
    · cases e
    · exact e
  have out : ∀ b, (∀ o, G b = none → H b = some o → False) → maskH G H G2 b = G2 b := fun b h => by
    unfold maskH
    split
    · rename_i o h1 h2
      exact (h o h1 h2).elim
    · rfl
  refine ⟨⟨t.h, fun b o e => ?_, ⟨fun b o e => t.o.s b o (get b o e), fun b o e n => ?_⟩, fun b o e n => ?_⟩, fun a xs h => ?_⟩
  · rw [out b fun o' n _ => by rw [n] at e; cases e]
    exact t.g _ _ (ok.s _ _ e)
  · cases hg : G b with
    | some u =>
      rw [out b fun o' n' _ => by rw [hg] at n'; cases n'] at n
      have := t.g _ _ (ok.s _ _ hg)
      rw [n] at this
      cases this
    | none =>
      cases hh : H b with
      | some u =>
        have := t.h _ _ hh
        rw [e] at this
        cases this
        exact ok.z _ _ hh hg
      | none =>
        rw [out b fun o' _ h' => by rw [hh] at h'; cases h'] at n
        exact t.o.z _ _ e n
  · unfold maskH
    rw [n, e]
  · have key : ∀ o, G2 a = some o → ¬ Owb o → maskH G H G2 a = some o := fun o e no => by
      rw [out a fun u n hh => ?_]
      · exact e
      · have := t.g _ _ hh
        rw [e] at this
        cases this
        exact no (ok.z _ _ hh n)
    rcases h with (h | ⟨o, h⟩) | h
    · exact .inl (.inl (key _ h fun q => q))
    · exact .inl (.inr ⟨o, key _ h fun q => q⟩)
    · exact .inr h
theorem snd_callB (C : Ctx T fn W cls d sc X) {f : Nat} {x : Str} {n : Nat} {fr : Bool} {es : Exs} {l : Expr} {ls : List Expr} {p p2 : Pos} (hf : T.fns.lookup f = some (x, n, fr)) (hl : (l :: ls).length = n) (h1 : glB sc x = true) (h2 : nmB x = true)
    (ha : PA X (l :: ls) (tL T fn W cls X.K false es)) (hlen : ∀ ρ zs, evs fn es ρ = .ok zs → zs.length = (l :: ls).length) (hp : ∀ e ∈ l :: ls, plE e = true) : Snd T fn W cls X (.callB f es) (.Call (.Name x p) (l :: ls) [] p2) := by
  obtain ⟨n1, n2, n3⟩ := nmB_ok h2
  obtain ⟨fa, fd, ps, k, hF, hr, hm, hk, hb⟩ := (C.fns f x n fr hf).ex
  have hst := plE_star (es := ls) (env := X.env) (hp l (by simp))
  have hpl : (backTo p2 (starEach ls X.env)).any (·.1) = false := any_back fun e he => hp e (List.mem_cons_of_mem _ he)
  refine .of (pe_imp (pe_callS hF hr (glB_ok h1 C.hs) hm hk hb (fun σ => passAt C.tk σ) ha n1 hst hpl) fun σ H Q h => ?_) (fun _ => rfl) rfl
  obtain ⟨G, ρ, F, h⟩ := h
  have h : Want W cls X.K .S ((evs fn es ρ).bind fun ds => (fn f ds).bind fun z => .guard z.flat (.ok z)) G H σ Q := h
  refine seqL F h fun zs vs H1 G1 e t1 F1 p1 h1 => ?_
  have p1 : PBL X.K G1 H1 vs zs := p1
  have okH : Ok2 H1 H1 := ⟨Same.refl _, fun a o e n => by rw [e] at n; cases n⟩
  refine ⟨by rw [p1.len, hlen ρ zs e]; exact hl, H1, zs, okH, p1.rd F1.sub, ?_⟩
  cases e2 : fn f zs with
  | exc c =>
    rw [e2] at h1
    intro H2 G2 t2
    exact h1 H2 _ (mask_stp (K := X.K) F1.ok t2).1
  | bad => rw [e2] at h1; exact h1
  | ok z =>
    rw [e2] at h1
    obtain ⟨z', hz, q⟩ := want_pure (ne_guard ne_ok) h1
    obtain ⟨g1, g2⟩ := guard_ok hz
    cases g2
    intro v H2 G2 t2 pk
    obtain ⟨G3, t3, r3⟩ := pk.toS (by cases fr <;> exact fun q => nomatch q) t2
    obtain ⟨t4, hs⟩ := mask_stp (K := X.K) F1.ok t3
    exact q v H2 _ t4 (flat_mask hs r3 g1)
end
end Den
namespace Den
open PySem PySem.Spec PyProof.Rows L2
theorem turn_long {P : Program} {w : World} {K : PySem.W.Frag} {tg : Expr} (it : Addr) (lo : Int) (n : Nat) : Turn P w K tg (L2.Itr lo n) [it] it (fun i h => IsLongIter h it (lo + (i : Nat) * 1) ((n : Int) - (i : Nat)) 1) where
  mem := by simp
  obj := fun i h st b hb => by
    have e : b = it := by simpa using hb
    subst e
    exact ⟨_, st, fun v z => nomatch z⟩
  keep := fun i h h' st k => k it (by simp) _ st
  item := by
    intro X hP hw hK hc i pins s σ H E I hf st hg
    subst hP hw hK
    obtain ⟨f0, f1, f2, f3, f4, f5⟩ := hf it (by simp)
    have W := Walks.longrange (prog := X.prog) (w := X.w) (I.ok.hd hc) it lo 1 n
    refine W.item i s _ _ hg st fun v h' tk hv st' kk => ?_
    obtain ⟨t, rfl⟩ := hv
    have I1 : Inv X pins σ H { s with heap := h', toks := tk } := I.turned (fun b o hb e => kk b o (by simpa using hb) e) f0 f1 f3 f4 f5
    exact ⟨_, rfl, go_of (s := { s with heap := h', toks := tk }) (n := "longrange_iterator") st' rfl rfl (by decide) ⟨.int (lo + (i : Nat) * 1), H, I1, ⟨t, rfl⟩, ⟨rfl, by simp⟩, st', fun b hb => (hf b hb).1⟩⟩
  done := by
    intro X hP hw hK hc i pins s σ H E I hf st hg
    subst hP hw hK
    obtain ⟨f0, f1, f2, f3, f4, f5⟩ := hf it (by simp)
    exact wpAny_pyNext_long_end (I.ok.hd hc) st (by have : n ≤ i := hg; omega) fun h' eb => ⟨rfl, I.turned (t' := s.toks) (fun b o hb e => eb b o hb e) f0 f1 f3 f4 f5⟩
  self := fun A i s Q E st h => wpAny_pyIter_longiter st h
theorem size_nat (a b : Int) : Builtin.Range.rangeSize a b 1 = ((b - a).toNat : Int) := by
  rw [rangeSize_one]; split <;> omega
theorem range_any {X : Cx} {tg : Expr} {pins : List (Addr × Obj)} {σ : L2.St} {H : Hp} {s : Shared} {R : It → Hp → Prop} {E : Value → Shared → Prop} {lo hi : Int} {t u v : Tok} {tk : Nat} (I : Inv X pins σ H s)
    (q : R (L2.Itr lo (hi - lo).toNat) H) : wpAny (model X.prog X.w) X.A (pyIter (.ref s.heap.objs.size)) (PIE X pins σ tg R) E { s with heap := s.heap.push { cls := .type "range", data := .fields #[.int lo t, .int hi u, .int 1 v] }, toks := tk } := by
  have I1 : Inv X pins σ H { s with heap := s.heap.push { cls := .type "range", data := .fields #[.int lo t, .int hi u, .int 1 v] }, toks := tk } := I.kept fun b o e => Heap.get?_push_of_some _ e
  have e1 : lo + ((0 : Nat) : Int) * 1 = lo := by simp
  have e2 : (((hi - lo).toNat : Nat) : Int) - ((0 : Nat) : Int) = Builtin.Range.rangeSize lo hi 1 := by rw [size_nat]; simp
  have fp : ∀ b ∈ [(s.heap.push { cls := .type "range", data := .fields #[.int lo t, .int hi u, .int 1 v] }).objs.size], FpOk X pins H b := fun b hb => by
    have e : b = (s.heap.push { cls := .type "range", data := .fields #[.int lo t, .int hi u, .int 1 v] }).objs.size := by simpa using hb
    subst e
    exact I1.fpOk (Nat.le_refl _) (I1.hok.fresh (Nat.le_refl _))
  cases hs : Builtin.Range.small lo hi 1 with
  | true =>
    refine wpAny_pyIter_range (IsRange.new ..) hs ?_
    refine ⟨_, [(s.heap.push { cls := .type "range", data := .fields #[.int lo t, .int hi u, .int 1 v] }).objs.size], _, _, H, rfl,
      I1.kept (t' := tk) fun b o e => Heap.get?_push_of_some _ e, turn_range _ lo (hi - lo).toNat, ?_, fp, q⟩
    show IsRangeIter _ _ (lo + ((0 : Nat) : Int) * 1) ((((hi - lo).toNat : Nat) : Int) - ((0 : Nat) : Int)) 1
    rw [e1, e2]
    exact Heap.get?_push_size _ rfl
  | false =>
    refine wpAny_pyIter_longrange (IsRange.new ..) hs ?_
    refine ⟨_, [(s.heap.push { cls := .type "range", data := .fields #[.int lo t, .int hi u, .int 1 v] }).objs.size], _, _, H, rfl,
      I1.kept (t' := tk) fun b o e => Heap.get?_push_of_some _ e, turn_long _ lo (hi - lo).toNat, ?_, fp, q⟩
    show IsLongIter _ _ (lo + ((0 : Nat) : Int) * 1) ((((hi - lo).toNat : Nat) : Int) - ((0 : Nat) : Int)) 1
    rw [e1, e2]
    exact Heap.get?_push_size _ rfl
def iRng2L (ta : TA) : TI := fun σ H R => ta σ H fun vs H1 => ∃ i j : Int, vs = [.int i, .int j] ∧ R (L2.Itr i (j - i).toNat) H1
theorem pi_range2L {X : Cx} {tg : Expr} {a b : Expr} {ta : TA} {p pos : Pos} (hg : Gl X "range") (hm : X.mg "range" = none) (ha : PA X [a, b] ta) (hs : starEach [a, b] X.env = [(false, eval a X.env), (false, eval b X.env)] := by rfl) (hs2 : starEach [b] X.env = [(false, eval b X.env)] := by rfl) :
    PI X tg (.Call (.Name "range" p) [a, b] [] pos) (iRng2L ta) := by
  refine ⟨fun pins s σ H R I h => ?_⟩
  refine Call_ (ld_blt I hg hm boot_range (PyProof.Rows.callWith_type1 (thn (ha.run pos pins s σ H _ I h) fun us s1 ⟨vs, H1, I1, r1, q1⟩ => ?_) (by rw [hs, hs2]) (by rw [hs2]; rfl)))
  obtain ⟨i, j, e, q⟩ := q1
  subst e
  cases r1 with
  | cons r rr =>
    cases rr with
    | cons r' rr =>
      cases rr
      obtain ⟨t, rfl⟩ := r
      obtain ⟨t', rfl⟩ := r'
      exact call_range_2 (range_any I1 q)
def iRng1L (ta : TA) : TI := fun σ H R => ta σ H fun vs H1 => ∃ j : Int, vs = [.int j] ∧ R (L2.Itr 0 j.toNat) H1
theorem pi_range1L {X : Cx} {tg : Expr} {a : Expr} {ta : TA} {p pos : Pos} (hg : Gl X "range") (hm : X.mg "range" = none) (ha : PA X [a] ta) (hs : starEach [a] X.env = [(false, eval a X.env)] := by rfl) :
    PI X tg (.Call (.Name "range" p) [a] [] pos) (iRng1L ta) := by
  refine ⟨fun pins s σ H R I h => ?_⟩
  refine Call_ (ld_blt I hg hm boot_range (PyProof.Rows.callWith_type1 (thn (ha.run pos pins s σ H _ I h) fun us s1 ⟨vs, H1, I1, r1, q1⟩ => ?_) hs rfl))
  obtain ⟨j, e, q⟩ := q1
  subst e
  cases r1 with
  | cons r rr =>
    cases rr
    obtain ⟨t, rfl⟩ := r
    refine call_range_1 (range_any (lo := 0) I1 ?_)
    rw [Int.sub_zero]
    exact q
set_option maxHeartbeats 1000000 in
theorem meets_enum1 {x : Value} {ob : Obj} {Ok : Heap → Prop} (B : Begins x ob Ok) :
    Meets (Builtin.«enumerate.__new__» ⟨[.type "enumerate", x], []⟩) (fun _ R s => Ok s.heap ∧
      R (.ok (.ret (.ref (s.heap.push ob).objs.size))) { s with heap := (s.heap.push ob).push { cls := .type "enumerate", data := .fields #[.none, .bool false, .ref s.heap.objs.size, rawInt 0, .none, .none] } }) :=
  .of_wp fun prog w A R sh hyp => by
    obtain ⟨hq, gl, dd, tk1, os1⟩ := sh; obtain ⟨k1, kk⟩ := hyp
    have hsub := sub_enumerate
    have go1 : ∀ {A' : Around} {E : Value → Shared → Prop} {Q : Value → Shared → Prop}, Q (.ref hq.objs.size) ⟨hq.push ob, gl, dd, tk1, os1⟩ → wpAny (model prog w) A' (pyIter x) Q E ⟨hq, gl, dd, tk1, os1⟩ :=
      fun q => B.iter prog w _ _ ⟨hq, gl, dd, tk1, os1⟩ _ k1 q
    wp_walk using go1
    refine wpAny_stack_any fun st => wpAny_pure ?_
    split
    · rename_i cl _ _ _ _ _
      cases (cl == Value.type "enumerate")
      · wp_walk using go1
        exact ⟨_, rfl, kk⟩
      · wp_walk using go1
        exact ⟨_, rfl, kk⟩
    · wp_walk using go1
      exact ⟨_, rfl, kk⟩
theorem call_enum1 {prog : Program} {w : World} {A : Around} {E : Value → Shared → Prop} {s : Shared} {x : Value} {ob : Obj} {Ok : Heap → Prop} {Q : Value → Shared → Prop} (B : Begins x ob Ok) (k1 : Ok s.heap)
    (fin : ∀ g, IsEnum g (s.heap.objs.size + 1) s.heap.objs.size 0 .none → g.get? s.heap.objs.size = some ob → g.objs.size = s.heap.objs.size + 2 →
      (∀ b o, s.heap.get? b = some o → g.get? b = some o) → Q (.ref (s.heap.objs.size + 1)) { s with heap := g }) :
    wpAny (model prog w) A (call (.type "enumerate") [x]) Q E s := by
  refine callType_new F.called_enumerate (by decide) (F.typeCall_enumerate_1 _) (F.newCall_enumerate_1 _) (fun obj => F.args_object_init_2 obj _) F.entry_enumerate_new (meets_enum1 B) ⟨k1, ?_⟩
  have z1 : (s.heap.push ob).objs.size = s.heap.objs.size + 1 := Heap.size_push ..
  show _ ∧ _
  rw [z1]
  have en : IsEnum ((s.heap.push ob).push { cls := .type "enumerate", data := .fields #[.none, .bool false, .ref s.heap.objs.size, rawInt 0, .none, .none] }) (s.heap.objs.size + 1) s.heap.objs.size 0 .none := by
    have r := Heap.get?_push_size (s.heap.push ob) (o := { cls := .type "enumerate", data := .fields #[.none, .bool false, .ref s.heap.objs.size, rawInt 0, .none, .none] }) rfl
    rw [z1] at r
    exact r
  exact ⟨⟨_, en, rfl⟩, fin _ en (Heap.get?_push_of_some _ (Heap.get?_push_size _ B.free)) (by rw [Heap.size_push, z1]) fun b o y => Heap.get?_push_of_some _ (Heap.get?_push_of_some _ y)⟩
/-- the tuple at a, each item in a new pair -/
def ItEt (K : PySem.W.Frag) (a : Addr) : It :=
  ⟨fun i H => ∃ (xs : List V) (x : V), SqT K H a xs ∧ xs[i]? = some x, fun i H v H' => ∃ T x, v = .ref T ∧ H T = none ∧ H' = upd H T (.tup [.int (i : Nat), x]) ∧ ∀ xs, SqT K H a xs → xs[i]? = some x, fun i H => ∃ xs : List V, SqT K H a xs ∧ xs.length = i⟩
theorem turn_enumT {P : Program} {w : World} {K : PySem.W.Frag} {elts : List Expr} {kk : Nat} {tpos : Pos} (a e it : Addr) :
    Turn P w K (.Tuple elts kk tpos) (ItEt K a) [e, it] e (fun i h => (∃ old, IsEnum h e it ((i : Nat) : Int) old) ∧ h.IsTupleIter it a i ∧ e ≠ it) where
  mem := by simp
  obj := fun i h st b hb => by
    obtain ⟨⟨old, he⟩, ⟨o, ho, hc, hd⟩, _⟩ := st
    rcases (show b = e ∨ b = it by simpa using hb) with z | z
    · rw [z]; exact ⟨_, he, fun v q => nomatch q⟩
    · rw [z]; exact ⟨o, ho, fun v q => by rw [hd] at q; cases q⟩
  keep := fun i h h' st k => ⟨st.1.elim fun old he => ⟨old, k e (by simp) _ he⟩, st.2.1.at fun o q => k it (by simp) o q, st.2.2⟩
  item := by
    intro X hP hw hK hc i pins s σ H E I hf st hg
    subst hP hw hK
    obtain ⟨⟨old, he⟩, ti, ne⟩ := st
    obtain ⟨xs, x, hq, hx⟩ := hg
    obtain ⟨its, rv, p, hz⟩ := I.tuple hq
    obtain ⟨u, hu, ru⟩ := rv.get hx
    have le : e < s.heap.objs.size := Heap.lt_size he
    have li : it < s.heap.objs.size := by obtain ⟨_, q, _⟩ := ti; exact Heap.lt_size q
    have pt : s.heap.IsTuple a its.toArray := p
    have na : a ≠ it := fun z => by
      obtain ⟨o1, q1, c1, d1⟩ := ti
      obtain ⟨o2, q2, c2, _⟩ := pt
      rw [z, q1] at q2
      cases q2
      rw [c1] at c2
      exact absurd (Value.type.inj c2) (by decide)
    have nea : e ≠ a := fun z => by
      obtain ⟨o2, q2, c2, _⟩ := pt
      have he' : s.heap.get? e = _ := he
      rw [z, q2] at he'
      cases he'
      exact absurd (Value.type.inj c2) (by decide)
    have il : i < its.toArray.size := by
      have := (List.getElem?_eq_some_iff.mp hu).1
      simpa using this
    refine wpAny_pyNext_enum_itemD (Draws.tuple (by exact I.ok.hd hc) it a na its.toArray) he ⟨ti, pt⟩ il ne (by simp [ne, nea]) fun x2 h' tk hx2 ho st2 hT hsz hk => ?_
    have hu2 : x2 = u := by
      have q1 : its.toArray[i]? = some u := by simpa using hu
      rw [hx2] at q1
      exact Option.some.inj q1
    subst hu2
    refine ⟨_, rfl, wpAny_letOwnedTupleGo_enum (s := { s with heap := h', toks := tk + 1 }) ho fun h2 he2 sb => ?_⟩
    have t2 : h2.get? s.heap.objs.size = some { cls := .type "tuple", data := .seq #[.int i tk, x2] } := (sb.2 _ (Nat.ne_of_gt le)).trans hT
    have nw : ObjOk X.prog X.w (upd H s.heap.objs.size (.tup [.int (i : Nat), x])) h2 s.heap.objs.size (.tup [.int (i : Nat), x]) :=
      ⟨by show 2 ≤ sizeLine; decide, [.int i tk, x2], .cons ⟨_, rfl⟩ (.cons ru .nil), ⟨_, t2, rfl, _, rfl⟩⟩
    have I1 : Inv X pins σ (upd H s.heap.objs.size (.tup [.int (i : Nat), x])) { s with heap := h2, toks := tk + 1 } :=
      I.turnedNew (ch := [e, it]) (fun b ob hb q => (sb.2 b (fun z => hb (by simp [z]))).trans (hk b ob (fun z => hb (by simp [z])) (fun z => hb (by simp [z])) q)) hf (Nat.le_refl _) nw
    refine ⟨.ref s.heap.objs.size, _, I1, rfl, ⟨_, x, rfl, I.hok.fresh (Nat.le_refl _), rfl, fun ys hy => by rw [I.tuple_inj hy hq]; exact hx⟩, ⟨⟨x2, ?_⟩, st2.1.at fun o q => (sb.2 it (Ne.symm ne)).trans q, ne⟩, fun b hb => ?_⟩
    · rw [show ((i + 1 : Nat) : Int) = (i : Int) + 1 by omega]; exact he2
    · have lb : b < s.heap.objs.size := by
        rcases (show b = e ∨ b = it by simpa using hb) with z | z
        · rw [z]; exact le
        · rw [z]; exact li
      rw [upd_ne (Nat.ne_of_lt lb)]
      exact (hf b hb).1
  done := by
    intro X hP hw hK hc i pins s σ H E I hf st hg
    subst hP hw hK
    obtain ⟨⟨old, he⟩, ti, ne⟩ := st
    obtain ⟨xs, hq, hx⟩ := hg
    obtain ⟨its, rv, p, hz⟩ := I.tuple hq
    have pt : s.heap.IsTuple a its.toArray := p
    have na : a ≠ it := fun z => by
      obtain ⟨o1, q1, c1, d1⟩ := ti
      obtain ⟨o2, q2, c2, _⟩ := pt
      rw [z, q1] at q2
      cases q2
      rw [c1] at c2
      exact absurd (Value.type.inj c2) (by decide)
    have hl := rv.length
    have sz : its.toArray.size = i := by simp; omega
    obtain ⟨f0, f1, f2, f3, f4, f5⟩ := hf it (by simp)
    exact wpAny_pyNext_enum_endD (Draws.tuple (by exact I.ok.hd hc) it a na its.toArray) he ⟨by rw [sz]; exact ti, pt⟩ fun h' eb => ⟨rfl, I.turned (t' := s.toks) (fun b o hb q => eb b o hb q) f0 f1 f3 f4 f5⟩
  self := fun A i s Q E st h => st.1.elim fun _ he => wpAny_pyIter_enum he h
def iEnumA (K : PySem.W.Frag) (ta : TA) : TI := fun σ H R => ta σ H fun vs H1 => ∃ a xs, vs = [.ref a] ∧ ((SqL K H1 a xs ∧ R (Ite K a) H1) ∨ (SqT K H1 a xs ∧ R (ItEt K a) H1))
theorem pi_enumA {X : Cx} {e : Expr} {ta : TA} {p pos tpos : Pos} {elts : List Expr} {kk : Nat} (hg : Gl X "enumerate") (hm : X.mg "enumerate" = none) (ha : PA X [e] ta) (hs : starEach [e] X.env = [(false, eval e X.env)] := by rfl) :
    PI X (.Tuple elts kk tpos) (.Call (.Name "enumerate" p) [e] [] pos) (iEnumA X.K ta) := by
  refine ⟨fun pins s σ H R I h => ?_⟩
  refine Call_ (ld_blt I hg hm boot_enumerate (PyProof.Rows.callWith_type1 (thn (ha.run pos pins s σ H _ I h) fun us s1 ⟨vs, H1, I1, r1, q1⟩ => ?_) hs rfl))
  obtain ⟨a, xs, ex, q1⟩ := q1
  subst ex
  cases r1 with
  | cons r rr =>
    cases rr
    cases r
    have new : ∀ b ∈ [s1.heap.objs.size + 1, s1.heap.objs.size], FpOk X pins H1 b := fun b hb => by
      have le : s1.heap.objs.size ≤ b := by
        rcases (show b = s1.heap.objs.size + 1 ∨ b = s1.heap.objs.size by simpa using hb) with z | z
        · rw [z]; exact Nat.le_add_right _ _
        · rw [z]; exact Nat.le_refl _
      exact I1.fpOk le (I1.hok.fresh le)
    rcases q1 with ⟨hq, q⟩ | ⟨hq, q⟩
    · obtain ⟨its, rv, p', hz⟩ := I1.list hq
      refine call_enumerate_list p'.isList fun h' he hit hsz hk => wpAny_pyIter_enum he ?_
      have I2 : Inv X pins σ H1 { s1 with heap := h' } := I1.kept (t' := s1.toks) hk
      exact ⟨s1.heap.objs.size + 1, [s1.heap.objs.size + 1, s1.heap.objs.size], _, _, H1, rfl, I2, turn_enum a (s1.heap.objs.size + 1) s1.heap.objs.size, ⟨⟨.none, he⟩, hit, Nat.succ_ne_self _⟩, new, q⟩
    · obtain ⟨its, rv, p', hz⟩ := I1.tuple hq
      refine call_enum1 (begins_tuple a its.toArray) p' fun h' he hit hsz hk => wpAny_pyIter_enum he ?_
      have I2 : Inv X pins σ H1 { s1 with heap := h' } := I1.kept (t' := s1.toks) hk
      exact ⟨s1.heap.objs.size + 1, [s1.heap.objs.size + 1, s1.heap.objs.size], _, _, H1, rfl, I2, turn_enumT a (s1.heap.objs.size + 1) s1.heap.objs.size, ⟨⟨.none, he⟩, ⟨_, hit, rfl, rfl⟩, Nat.succ_ne_self _⟩, new, q⟩
section
variable {T : Tbl} {fn : Nat → List D → R D} {W : WX} {cls : Nat → Value} {d : Bool} {sc : Scope} {X : Cx} {K : PySem.W.Frag}
/-- a sequence behind an expression: it stands wherever what is shared stands (an own one: wherever the heap stands) -/
structure SeqAt' (K : PySem.W.Frag) (nb : Bool) (G1 H1 : Hp) (a : Addr) (xs : List V) (ds : List D) (l : Bool) : Prop where
  rp : RpL K G1 xs ds
  at_ : ∀ G2 H2, Same G1 G2 → Same G2 H2 → (nb = true ∨ Same H1 H2) → if l then SqL K H2 a xs else SqT K H2 a xs
theorem seq_of {k : Kd} {G H G1 H1 : Hp} {v : V} {z : D} {ds : List D} {l : Bool} (hz : z = if l then .lst ds else .tup ds) (nb : Bool) (hk : nb = true → k ≠ .B) (t : Stp G H G1 H1) (p : PK k K G H G1 H1 v z) :
    ∃ G3 a xs, Stp G H G3 H1 ∧ v = .ref a ∧ SeqAt' K nb G3 H1 a xs ds l ∧ ∀ b o, G1 b = some o → G3 b = some o := by
  have shared : ∀ G3, Stp G H G3 H1 → (∀ b o, G1 b = some o → G3 b = some o) → Rp K G3 v z → ∃ G3 a xs, Stp G H G3 H1 ∧ v = .ref a ∧ SeqAt' K nb G3 H1 a xs ds l ∧ ∀ b o, G1 b = some o → G3 b = some o := fun G3 t3 hg r => by
    cases l with
    | true =>
      subst hz
      obtain ⟨a, xs, e, h1, h2⟩ := lst_inv r
      exact ⟨G3, a, xs, t3, e, ⟨h2, fun G2 H2 s1 s2 _ => (s1.trans s2).seq h1⟩, hg⟩
    | false =>
      subst hz
      obtain ⟨a, xs, e, h1, h2⟩ := tup_inv r
      exact ⟨G3, a, xs, t3, e, ⟨h2, fun G2 H2 s1 s2 _ => seqT (s1.trans s2) h1⟩, hg⟩
  cases nb with
  | true =>
    have hk := hk rfl
    cases k with
    | B => exact absurd rfl hk
    | S => exact shared G1 t (fun _ _ e => e) p
    | T =>
      obtain ⟨a, o, rfl, n, ho, hg, r⟩ := p
      exact shared _ (t.freeze n hg ho) (fun b o' e => same_upd hg _ _ e) (r.freeze hg)
  | false =>
    have p := p.toB
    rcases p with p | ⟨a, o, rfl, ho, hg, r⟩
    · exact shared G1 t (fun _ _ e => e) p
    · cases l with
      | true =>
        subst hz
        cases r with
        | lst r => exact ⟨G1, a, _, t, rfl, ⟨r, fun G2 H2 _ _ h => by
            rcases h with h | h
            · cases h
            · exact SqL.of (h _ _ ho)⟩, fun _ _ e => e⟩
      | false =>
        subst hz
        cases r
theorem items_cases {z : D} {ds : List D} (h : items z = .ok ds) : ∃ l : Bool, z = if l then .lst ds else .tup ds := by
  cases z with
  | lst xs => cases h; exact ⟨true, rfl⟩
  | tup xs => cases h; exact ⟨false, rfl⟩
  | _ => cases h
theorem wantI_seq {a : Ex} {nb : Bool} {f : D → R (List D)} {G H : Hp} {ρ : Env} {σ : L2.St} {Q : It → Hp → Prop} {P : VK} (F : FI K T.isOwn G ρ σ H) (h : WantI W cls K nb ((ev fn a ρ).bind f) G H σ Q)
    (q : ∀ z v H1 G1, ev fn a ρ = .ok z → Stp G H G1 H1 → FI K T.isOwn G1 ρ σ H1 → PK (kd T a) K G H G1 H1 v z → WantI W cls K nb (f z) G1 H1 σ Q → P v H1) : tE T fn W cls K a σ H P := by
  refine ⟨G, ρ, F, ?_⟩
  cases e : ev fn a ρ with
  | ok z =>
    rw [e] at h
    exact fun v H' G' t p => q z v H' G' e t (F.step t) p (WantI.shift t h)
  | exc c => rw [e] at h; exact h
  | bad => rw [e] at h; exact h
theorem wantI_ok {nb : Bool} {r : R (List D)} {G H : Hp} {σ : L2.St} {Q : It → Hp → Prop} (hn : ∀ c, r ≠ .exc c) (h : WantI W cls K nb r G H σ Q) :
    ∃ zs, r = .ok zs ∧ ∀ J H' G', Stp G H G' H' → Yields K (fun H2 => nb = true ∨ Same H' H2) J zs G' → Q J H' := by
  cases r with
  | ok z => exact ⟨z, rfl, h⟩
  | exc c => exact absurd rfl (hn c)
  | bad => exact h.elim
theorem items_ne (z : D) : ∀ c, items z ≠ .exc c := by
  cases z <;> first | exact ne_ok | exact ne_bad
theorem itemsL_ne (z : D) : ∀ c, itemsL z ≠ .exc c := by
  cases z <;> first | exact ne_ok | exact ne_bad
theorem zipD_ne (z y : D) : ∀ c, zipD z y ≠ .exc c := by
  unfold zipD
  split <;> first | exact ne_ok | exact ne_bad
theorem nB_imp {a : Ex} (h : nB T a = true) : kd T a ≠ .B := nB_ne h
/-- a list, a tuple walked gives its items -/
theorem yields_seq {nb : Bool} {G1 H1 : Hp} {a : Addr} {xs : List V} {ds : List D} {l : Bool} (s : SeqAt' K nb G1 H1 a xs ds l) : Yields K (fun H2 => nb = true ∨ Same H1 H2) (if l then Itl K a else Itt K a) ds G1 := by
  intro G H sg ok hk
  have hs := s.at_ G H sg ok.s hk
  have hl := s.rp.len
  cases l with
  | true =>
    refine ⟨fun i z e => ?_, xs, hs, by omega⟩
    obtain ⟨v, e1, r⟩ := s.rp.get e
    refine ⟨⟨xs, v, hs, e1⟩, fun x H' y => ?_⟩
    obtain ⟨rfl, y⟩ := y
    have := y xs hs
    rw [e1] at this
    cases this
    exact ⟨G, Stp.refl ok, r.mono sg⟩
  | false =>
    refine ⟨fun i z e => ?_, xs, hs, by omega⟩
    obtain ⟨v, e1, r⟩ := s.rp.get e
    refine ⟨⟨xs, v, hs, e1⟩, fun x H' y => ?_⟩
    obtain ⟨rfl, y⟩ := y
    have := y xs hs
    rw [e1] at this
    cases this
    exact ⟨G, Stp.refl ok, r.mono sg⟩
theorem yields_str {Kp : Hp → Prop} {z : Str} {G0 : Hp} : Yields K Kp (Its z) (signsD z) G0 := by
  intro G H sg ok hk
  refine ⟨fun i d e => ?_, by show z.cps.size ≤ (signsD z).length; unfold signsD; rw [List.length_map]; exact Nat.le_refl _⟩
  unfold signsD at e
  rw [List.getElem?_map] at e
  cases hc : z.cps.toList[i]? with
  | none => rw [hc] at e; cases e
  | some c =>
    rw [hc] at e
    cases e
    rw [Array.getElem?_toList] at hc
    refine ⟨(Array.getElem?_eq_some_iff.mp hc).1, fun x H' y => ?_⟩
    obtain ⟨rfl, c', hc', rfl⟩ := y
    rw [hc] at hc'
    cases hc'
    exact ⟨G, Stp.refl ok, .str _⟩
theorem itemsS_ne (z : D) : ∀ c, itemsS z ≠ .exc c := by
  cases z <;> first | exact ne_ok | exact ne_bad
theorem itemsS_cases {z : D} {ds : List D} (h : itemsS z = .ok ds) : (∃ l : Bool, z = if l then .lst ds else .tup ds) ∨ ∃ s, z = .str s ∧ ds = signsD s := by
  cases z with
  | str s => cases h; exact .inr ⟨s, rfl, rfl⟩
  | _ => exact .inl (items_cases h)
theorem pi_seq (C : Ctx T fn W cls d sc X) {a : Ex} {g e : Expr} (ha : Snd T fn W cls X a e) : PI X g e (tIt T fn W cls X.K (.seq a)) := by
  refine pi_ex fun σ H R h => ?_
  obtain ⟨G, ρ, F, h⟩ := h
  have h : WantI W cls X.K (nB T a) ((ev fn a ρ).bind itemsS) G H σ R := h
  cases e1 : ev fn a ρ with
  | exc c =>
    rw [e1] at h
    refine ⟨_, pi_list ha.pe, G, ρ, F, ?_⟩
    rw [e1]
    exact h
  | bad => rw [e1] at h; exact h.elim
  | ok z =>
    obtain ⟨ds, hd, q⟩ := wantI_ok (ne_bind (by rw [e1]; exact ne_ok) itemsS_ne) h
    rw [e1] at hd
    rcases itemsS_cases hd with ⟨l, hz⟩ | ⟨s, hz, rfl⟩
    rotate_left
    · refine ⟨_, pi_str ha.pe, ?_⟩
      refine wantI_seq F h fun z1 v H1 G1 e2 t1 F1 p1 _ => ?_
      rw [e1] at e2
      cases e2
      subst hz
      exact ⟨s, p1.toB.str, q _ _ _ t1 yields_str⟩
    cases l with
    | true =>
      refine ⟨_, pi_list ha.pe, ?_⟩
      refine wantI_seq F h fun z1 v H1 G1 e2 t1 F1 p1 _ => ?_
      rw [e1] at e2
      cases e2
      obtain ⟨G3, b, xs, t3, e3, s, _⟩ := seq_of hz (nB T a) nB_imp t1 p1
      exact ⟨b, e3, ⟨xs, s.at_ G3 H1 (Same.refl _) t3.s (.inr (Same.refl _))⟩, q _ _ _ t3 (yields_seq s)⟩
    | false =>
      refine ⟨_, pi_tup ha.pe, ?_⟩
      refine wantI_seq F h fun z1 v H1 G1 e2 t1 F1 p1 _ => ?_
      rw [e1] at e2
      cases e2
      obtain ⟨G3, b, xs, t3, e3, s, _⟩ := seq_of hz (nB T a) nB_imp t1 p1
      exact ⟨b, e3, ⟨xs, s.at_ G3 H1 (Same.refl _) t3.s (.inr (Same.refl _))⟩, q _ _ _ t3 (yields_seq s)⟩
theorem upto_get : ∀ {n i : Nat} {lo : Int} {z : D}, (upto lo n)[i]? = some z → i < n ∧ z = .int (lo + i)
  | 0, i, lo, z, h => by simp [upto] at h
  | n + 1, 0, lo, z, h => by
    simp only [upto, List.getElem?_cons_zero, Option.some.injEq] at h
    subst h
    exact ⟨Nat.succ_pos _, by simp⟩
  | n + 1, i + 1, lo, z, h => by
    simp only [upto, List.getElem?_cons_succ] at h
    obtain ⟨h1, h2⟩ := upto_get h
    refine ⟨by omega, ?_⟩
    rw [h2]
    congr 1
    omega
theorem upto_len : ∀ (n : Nat) (lo : Int), (upto lo n).length = n
  | 0, _ => rfl
  | n + 1, lo => by rw [upto, List.length_cons, upto_len n]
theorem upby_get : ∀ {n i : Nat} {lo c : Int} {z : D}, (upby lo c n)[i]? = some z → i < n ∧ z = .int (lo + i * c)
  | 0, i, lo, c, z, h => by simp [upby] at h
  | n + 1, 0, lo, c, z, h => by
    simp only [upby, List.getElem?_cons_zero, Option.some.injEq] at h
    subst h
    exact ⟨Nat.succ_pos _, by simp⟩
  | n + 1, i + 1, lo, c, z, h => by
    simp only [upby, List.getElem?_cons_succ] at h
    obtain ⟨h1, h2⟩ := upby_get h
    refine ⟨by omega, ?_⟩
    rw [h2]
    congr 1
    have : ((i + 1 : Nat) : Int) * c = i * c + c := by rw [Int.natCast_succ, Int.add_mul, Int.one_mul]
    omega
theorem upby_len : ∀ (n : Nat) (lo c : Int), (upby lo c n).length = n
  | 0, _, _ => rfl
  | n + 1, lo, c => by rw [upby, List.length_cons, upby_len n]
theorem yields_rng {Kp : Hp → Prop} {lo : Int} {n : Nat} {G0 : Hp} : Yields K Kp (L2.Itr lo n) (upto lo n) G0 := by
  intro G H sg ok hk
  refine ⟨fun i z e => ?_, ?_⟩
  · obtain ⟨h1, rfl⟩ := upto_get e
    refine ⟨h1, fun x H' y => ?_⟩
    obtain ⟨rfl, rfl⟩ := y
    exact ⟨G, Stp.refl ok, .int _⟩
  · rw [upto_len]
    exact Nat.le_refl _
theorem yields_rngC {Kp : Hp → Prop} {lo c : Int} {n : Nat} {G0 : Hp} : Yields K Kp (Itc lo c n) (upby lo c n) G0 := by
  intro G H sg ok hk
  refine ⟨fun i z e => ?_, ?_⟩
  · obtain ⟨h1, rfl⟩ := upby_get e
    refine ⟨h1, fun x H' y => ?_⟩
    obtain ⟨rfl, rfl⟩ := y
    exact ⟨G, Stp.refl ok, .int _⟩
  · rw [upby_len]
    exact Nat.le_refl _
theorem wantI_int {nb : Bool} {f : Int → R (List D)} {G H : Hp} {σ : L2.St} {Q : It → Hp → Prop} {z : D} (h : WantI W cls K nb ((asInt z).bind f) G H σ Q) : ∃ b, z = .int b ∧ WantI W cls K nb (f b) G H σ Q := by
  cases z with
  | int b => exact ⟨b, rfl, h⟩
  | _ => exact h.elim
theorem pi_rng1 (C : Ctx T fn W cls d sc X) {a : Ex} {g l : Expr} {p p2 : Pos} (hb : blt T sc "range" = true) (ha : Snd T fn W cls X a l) (hl : plE l = true) : PI X g (.Call (.Name "range" p) [l] [] p2) (tIt T fn W cls X.K (.rng1 a)) := by
  obtain ⟨g1, g2, g3, g4⟩ := blt_ok C hb
  refine pi_imp (pi_range1L g1 g2 (pa_cons ha.pe pa_nil (plE_star hl)) (plE_star hl)) fun σ H R h => ?_
  obtain ⟨G, ρ, F, h⟩ := h
  refine wantI_seq F h fun z v H1 G1 _ t1 F1 p1 h1 => ?_
  obtain ⟨j, e4, h1⟩ := wantI_int h1
  subst e4
  obtain ⟨zs, hz, q⟩ := wantI_ok ne_ok h1
  cases hz
  exact ⟨j, by rw [p1.int], q _ _ _ (Stp.refl F1.ok) yields_rng⟩
theorem pi_rng2 (C : Ctx T fn W cls d sc X) {a b : Ex} {g l m : Expr} {p p2 : Pos} (hb : blt T sc "range" = true) (ha : Snd T fn W cls X a l) (hl : plE l = true) (ha2 : Snd T fn W cls X b m) (hm : plE m = true) :
    PI X g (.Call (.Name "range" p) [l, m] [] p2) (tIt T fn W cls X.K (.rng2 a b)) := by
  obtain ⟨g1, g2, g3, g4⟩ := blt_ok C hb
  refine pi_imp (pi_range2L g1 g2 (pa_cons ha.pe (pa_cons ha2.pe pa_nil (plE_star hm)) (plE_star hl)) (by rw [plE_star hl, plE_star hm]; rfl) (by rw [plE_star hm]; rfl)) fun σ H R h => ?_
  obtain ⟨G, ρ, F, h⟩ := h
  refine wantI_seq F h fun z v H1 G1 _ t1 F1 p1 h1 => ?_
  refine wantI_seq F1 h1 fun z2 v2 H2 G2 _ t2 F2 p2 h2 => ?_
  obtain ⟨i, e4, h4⟩ := wantI_int h2
  obtain ⟨j, e5, h5⟩ := wantI_int h4
  subst e4 e5
  obtain ⟨zs, hz, q⟩ := wantI_ok ne_ok h5
  cases hz
  exact ⟨i, j, by rw [p1.int, p2.int], q _ _ _ (Stp.refl F2.ok) yields_rng⟩
theorem pi_rng3 (C : Ctx T fn W cls d sc X) {a b c : Ex} {g l m r : Expr} {p p2 : Pos} (hb : blt T sc "range" = true) (ha : Snd T fn W cls X a l) (hl : plE l = true) (ha2 : Snd T fn W cls X b m) (hm : plE m = true) (ha3 : Snd T fn W cls X c r) (hr : plE r = true) :
    PI X g (.Call (.Name "range" p) [l, m, r] [] p2) (tIt T fn W cls X.K (.rng3 a b c)) := by
  obtain ⟨g1, g2, g3, g4⟩ := blt_ok C hb
  refine pi_imp (pi_range3 g1 g2 (pa_cons ha.pe (pa_cons ha2.pe (pa_cons ha3.pe pa_nil (plE_star hr)) (plE_star hm)) (plE_star hl)) (plE_star hl) (by rw [plE_star hm, plE_star hr]; rfl)) fun σ H R h => ?_
  obtain ⟨G, ρ, F, h⟩ := h
  refine wantI_seq F h fun z v H1 G1 _ t1 F1 p1 h1 => ?_
  refine wantI_seq F1 h1 fun z2 v2 H2 G2 _ t2 F2 p2 h2 => ?_
  refine wantI_seq F2 h2 fun z3 v3 H3 G3 _ t3 F3 p3 h3 => ?_
  obtain ⟨i, e4, h4⟩ := wantI_int h3
  obtain ⟨j, e5, h5⟩ := wantI_int h4
  obtain ⟨k, e6, h6⟩ := wantI_int h5
  subst e4 e5 e6
  obtain ⟨zs, hz, q⟩ := wantI_ok (ne_guard ne_ok) h6
  obtain ⟨k1, k2⟩ := guard_ok hz
  cases k2
  rw [Bool.and_eq_true, Bool.and_eq_true, Bool.and_eq_true, decide_eq_true_eq, decide_eq_true_eq, decide_eq_true_eq] at k1
  exact ⟨i, j, k, _, by rw [p1.int, p2.int, p3.int], ⟨k1.1.1.1, k1.1.1.2, k1.1.2, by rw [Int.toNat_of_nonneg k1.2]⟩, q _ _ _ (Stp.refl F3.ok) yields_rngC⟩
theorem enumL_get : ∀ {ds : List D} {k i : Nat} {z : D}, (enumL k ds)[i]? = some z → ∃ e, ds[i]? = some e ∧ z = .tup [.int ((k + i : Nat) : Int), e]
  | [], k, i, z, h => by simp [enumL] at h
  | x :: r, k, 0, z, h => by
    simp only [enumL, List.getElem?_cons_zero, Option.some.injEq] at h
    subst h
    exact ⟨x, rfl, rfl⟩
  | x :: r, k, i + 1, z, h => by
    simp only [enumL, List.getElem?_cons_succ] at h
    obtain ⟨e, h1, h2⟩ := enumL_get h
    refine ⟨e, by simpa using h1, ?_⟩
    rw [h2]
    have : k + 1 + i = k + (i + 1) := by omega
    rw [this]
theorem enumL_len : ∀ (ds : List D) (k : Nat), (enumL k ds).length = ds.length
  | [], _ => rfl
  | x :: r, k => by rw [enumL, List.length_cons, List.length_cons, enumL_len r]
theorem zipL_get : ∀ {ds es : List D} {i : Nat} {z : D}, (zipL ds es)[i]? = some z → ∃ x y, ds[i]? = some x ∧ es[i]? = some y ∧ z = .tup [x, y]
  | [], _, i, z, h => by simp [zipL] at h
  | _ :: _, [], i, z, h => by simp [zipL] at h
  | x :: r, y :: r', 0, z, h => by
    simp only [zipL, List.getElem?_cons_zero, Option.some.injEq] at h
    subst h
    exact ⟨x, y, rfl, rfl, rfl⟩
  | x :: r, y :: r', i + 1, z, h => by
    simp only [zipL, List.getElem?_cons_succ] at h
    obtain ⟨e, f, h1, h2, h3⟩ := zipL_get h
    exact ⟨e, f, by simpa using h1, by simpa using h2, h3⟩
theorem zipL_len : ∀ (ds es : List D), (zipL ds es).length = min ds.length es.length
  | [], _ => by simp [zipL]
  | _ :: _, [] => by simp [zipL]
  | x :: r, y :: r' => by
    rw [zipL, List.length_cons, List.length_cons, List.length_cons, zipL_len r r']
    omega
theorem pi_enm (C : Ctx T fn W cls d sc X) {a : Ex} {es : List Expr} {kk : Nat} {tp : Pos} {l : Expr} {p p2 : Pos} (hb : blt T sc "enumerate" = true) (ha : Snd T fn W cls X a l) (hl : plE l = true) :
    PI X (.Tuple es kk tp) (.Call (.Name "enumerate" p) [l] [] p2) (tIt T fn W cls X.K (.enum a)) := by
  obtain ⟨g1, g2, g3, g4⟩ := blt_ok C hb
  refine pi_imp (pi_enumA g1 g2 (pa_cons ha.pe pa_nil (plE_star hl)) (plE_star hl)) fun σ H R h => ?_
  obtain ⟨G, ρ, F, h⟩ := h
  refine wantI_seq F h fun z v H1 G1 ez t1 F1 p1 h1 => ?_
  have h0 : WantI W cls X.K (nBI T (.enum a)) ((ev fn a ρ).bind fun x => (items x).bind fun xs => .ok (enumL 0 xs)) G H σ R := h
  cases z with
  | lst ds =>
    obtain ⟨G3, b, xs, t3, e3, s, _⟩ := seq_of (l := true) rfl (nB T a) nB_imp t1 p1
    subst e3
    refine ⟨b, xs, rfl, .inl ⟨s.at_ G3 H1 (Same.refl _) t3.s (.inr (Same.refl _)), ?_⟩⟩
    have h3 : WantI W cls X.K (nB T a) (.ok (enumL 0 ds)) G H σ R := by
      rw [ez] at h0
      exact h0
    refine h3 _ _ _ t3 fun G4 H4 sg ok hk => ?_
    have hs := s.at_ G4 H4 sg ok.s hk
    have hs : SqL X.K H4 b xs := hs
    have hlen := s.rp.len
    refine ⟨fun i z e => ?_, xs, hs, by rw [enumL_len]; omega⟩
    obtain ⟨w, e1, rfl⟩ := enumL_get e
    obtain ⟨v, e4, r⟩ := s.rp.get e1
    refine ⟨⟨xs, v, hs, e4⟩, fun x H' y => ?_⟩
    obtain ⟨T', x', rfl, hn, rfl, y⟩ := y
    have := y xs hs
    rw [e4] at this
    cases this
    refine ⟨_, Stp.newS ok hn, .tup (SqT.of upd_same) (.cons ?_ (.cons ((r.mono sg).mono (same_upd (ok.s.free hn))) .nil))⟩
    rw [Nat.zero_add]
    exact .int _
  | tup ds =>
    obtain ⟨G3, b, xs, t3, e3, s, _⟩ := seq_of (l := false) rfl (nB T a) nB_imp t1 p1
    subst e3
    refine ⟨b, xs, rfl, .inr ⟨s.at_ G3 H1 (Same.refl _) t3.s (.inr (Same.refl _)), ?_⟩⟩
    have h3 : WantI W cls X.K (nB T a) (.ok (enumL 0 ds)) G H σ R := by
      rw [ez] at h0
      exact h0
    refine h3 _ _ _ t3 fun G4 H4 sg ok hk => ?_
    have hs := s.at_ G4 H4 sg ok.s hk
    have hs : SqT X.K H4 b xs := hs
    have hlen := s.rp.len
    refine ⟨fun i z e => ?_, xs, hs, by rw [enumL_len]; omega⟩
    obtain ⟨w, e1, rfl⟩ := enumL_get e
    obtain ⟨v, e4, r⟩ := s.rp.get e1
    refine ⟨⟨xs, v, hs, e4⟩, fun x H' y => ?_⟩
    obtain ⟨T', x', rfl, hn, rfl, y⟩ := y
    have := y xs hs
    rw [e4] at this
    cases this
    refine ⟨_, Stp.newS ok hn, .tup (SqT.of upd_same) (.cons ?_ (.cons ((r.mono sg).mono (same_upd (ok.s.free hn))) .nil))⟩
    rw [Nat.zero_add]
    exact .int _
  | _ => exact h1.elim
theorem pi_zp (C : Ctx T fn W cls d sc X) {a b : Ex} {es : List Expr} {kk : Nat} {tp : Pos} {l m : Expr} {p p2 : Pos} (hb : blt T sc "zip" = true) (ha : Snd T fn W cls X a l) (hl : plE l = true) (ha2 : Snd T fn W cls X b m) (hm : plE m = true) :
    PI X (.Tuple es kk tp) (.Call (.Name "zip" p) [l, m] [] p2) (tIt T fn W cls X.K (.zip a b)) := by
  obtain ⟨g1, g2, g3, g4⟩ := blt_ok C hb
  refine pi_imp (RZ.pi_zipA g1 g2 (pa_cons ha.pe (pa_cons ha2.pe pa_nil (plE_star hm)) (plE_star hl)) (plE_star hl) (by rw [plE_star hm]; rfl)) fun σ H R h => ?_
  obtain ⟨G, ρ, F, h⟩ := h
  refine wantI_seq F h fun z v H1 G1 ez1 t1 F1 p1 h1 => ?_
  refine wantI_seq F1 h1 fun z2 v2 H2 G2 ez2 t2 F2 p2 h2 => ?_
  obtain ⟨zs, hz, q⟩ := wantI_ok (zipD_ne z z2) h2
  have both : ∀ (dl : Bool) (ds ds2 : List D), z = (if dl then .lst ds else .tup ds) → z2 = (if dl then .lst ds2 else .tup ds2) → zs = zipL ds ds2 →
      ∃ (c c2 : Addr) (xs ys : List V), [v, v2] = [.ref c, .ref c2] ∧ ((SqL X.K H2 c xs ∧ SqL X.K H2 c2 ys ∧ R (Itz X.K c c2) H2) ∨ (SqT X.K H2 c xs ∧ SqT X.K H2 c2 ys ∧ R (RZ.ItzT X.K c c2) H2)) := by
    intro dl ds ds2 e1 e2 ez
    have nb1 : (nB T a && nB T b) = true → kd T a ≠ .B := fun h => nB_imp (by rw [Bool.and_eq_true] at h; exact h.1)
    have nb2 : (nB T a && nB T b) = true → kd T b ≠ .B := fun h => nB_imp (by rw [Bool.and_eq_true] at h; exact h.2)
    obtain ⟨G3, c, xs, t3, e3, s, hg3⟩ := seq_of (l := dl) e1 (nB T a && nB T b) nb1 (t1.trans t2) (p1.mono t2)
    -- the second one, over what the first one froze
    have p2' : PK (kd T b) X.K G1 H1 G2 H2 v2 z2 := p2
    obtain ⟨G4, c2, ys, t4, e4, s2, hg4⟩ : ∃ G4 c2 ys, Stp G H G4 H2 ∧ v2 = .ref c2 ∧ SeqAt' X.K (nB T a && nB T b) G4 H2 c2 ys ds2 dl ∧ ∀ b o, G3 b = some o → G4 b = some o := by
      cases k : kd T b with
      | S =>
        rw [k] at p2'
        have p3 : PK .S X.K G H G3 H2 v2 z2 := Rp.mono hg3 p2'
        exact seq_of (l := dl) e2 _ (fun _ => by exact fun q => nomatch q) t3 p3
      | B =>
        cases hnb : (nB T a && nB T b) with
        | true => exact absurd k (nb2 hnb)
        | false =>
          rw [k] at p2'
          rcases p2' with r | ⟨w, o, rfl, ho, hg, r⟩
          · have p3 : PK .S X.K G H G3 H2 v2 z2 := Rp.mono hg3 r
            exact seq_of (l := dl) e2 _ (fun _ => by exact fun q => nomatch q) t3 p3
          · cases hw : G3 w with
            | some u =>
              have hu := t3.s _ _ hw
              rw [ho] at hu
              cases hu
              have p3 : PK .S X.K G H G3 H2 (.ref w) z2 := (r.mono hg3).rp hw
              exact seq_of (l := dl) e2 _ (fun _ => by exact fun q => nomatch q) t3 p3
            | none =>
              have p3 : PK .B X.K G H G3 H2 (.ref w) z2 := .inr ⟨w, o, rfl, ho, hw, r.mono hg3⟩
              exact seq_of (l := dl) e2 _ (fun h => nomatch h) t3 p3
      | T =>
        rw [k] at p2'
        obtain ⟨w, o, rfl, hn, ho, hg, r⟩ := p2'
        have hn0 : H w = none := t1.h.free hn
        cases hw : G3 w with
        | some u =>
          have hu := t3.s _ _ hw
          rw [ho] at hu
          cases hu
          have p3 : PK .S X.K G H G3 H2 (.ref w) z2 := (r.mono hg3).rp hw
          exact seq_of (l := dl) e2 _ (fun _ => by exact fun q => nomatch q) t3 p3
        | none =>
          have p3 : PK .T X.K G H G3 H2 (.ref w) z2 := ⟨w, o, rfl, hn0, ho, hw, r.mono hg3⟩
          exact seq_of (l := dl) e2 _ (fun _ => by exact fun q => nomatch q) t3 p3
    subst e3 e4 ez
    have hx := s.at_ G4 H2 hg4 t4.s (.inr (Same.refl _))
    have hy := s2.at_ G4 H2 (Same.refl _) t4.s (.inr (Same.refl _))
    have h3 : WantI W cls X.K (nB T a && nB T b) (.ok (zipL ds ds2)) G H σ R := by
      have h0 : WantI W cls X.K (nBI T (.zip a b)) ((ev fn a ρ).bind fun x => (ev fn b ρ).bind fun y => zipD x y) G H σ R := h
      rw [ez1] at h0
      have h0 : WantI W cls X.K (nBI T (.zip a b)) ((ev fn b ρ).bind fun y => zipD z y) G H σ R := h0
      rw [ez2] at h0
      have h0 : WantI W cls X.K (nBI T (.zip a b)) (zipD z z2) G H σ R := h0
      rw [hz] at h0
      exact h0
    have hl1 := s.rp.len
    have hl2 := s2.rp.len
    have ylen : (zipL ds ds2).length = min ds.length ds2.length := zipL_len _ _
    cases dl with
    | true =>
      refine ⟨c, c2, xs, ys, rfl, .inl ⟨hx, hy, h3 _ _ _ t4 fun G5 H5 sg ok hk => ?_⟩⟩
      have kx := s.at_ G5 H5 (Same.trans hg4 sg) ok.s hk
      have ky := s2.at_ G5 H5 sg ok.s hk
      have kx : SqL X.K H5 c xs := kx
      have ky : SqL X.K H5 c2 ys := ky
      refine ⟨fun i z e => ?_, xs, ys, kx, ky, by rw [ylen]; omega⟩
      obtain ⟨x0, y0, f1, f2, rfl⟩ := zipL_get e
      obtain ⟨v', f3, r3⟩ := s.rp.get f1
      obtain ⟨w', f4, r4⟩ := s2.rp.get f2
      refine ⟨⟨xs, ys, v', w', kx, ky, f3, f4⟩, fun x H' y => ?_⟩
      obtain ⟨T', x', y', rfl, hn, rfl, y1, y2⟩ := y
      have q1 := y1 xs kx
      have q2 := y2 ys ky
      rw [f3] at q1
      rw [f4] at q2
      cases q1
      cases q2
      exact ⟨_, Stp.newS ok hn, .tup (SqT.of upd_same) (.cons ((r3.mono (Same.trans hg4 sg)).mono (same_upd (ok.s.free hn))) (.cons ((r4.mono sg).mono (same_upd (ok.s.free hn))) .nil))⟩
    | false =>
      refine ⟨c, c2, xs, ys, rfl, .inr ⟨hx, hy, h3 _ _ _ t4 fun G5 H5 sg ok hk => ?_⟩⟩
      have kx := s.at_ G5 H5 (Same.trans hg4 sg) ok.s hk
      have ky := s2.at_ G5 H5 sg ok.s hk
      have kx : SqT X.K H5 c xs := kx
      have ky : SqT X.K H5 c2 ys := ky
      refine ⟨fun i z e => ?_, xs, ys, kx, ky, by rw [ylen]; omega⟩
      obtain ⟨x0, y0, f1, f2, rfl⟩ := zipL_get e
      obtain ⟨v', f3, r3⟩ := s.rp.get f1
      obtain ⟨w', f4, r4⟩ := s2.rp.get f2
      refine ⟨⟨xs, ys, v', w', kx, ky, f3, f4⟩, fun x H' y => ?_⟩
      obtain ⟨T', x', y', rfl, hn, rfl, y1, y2⟩ := y
      have q1 := y1 xs kx
      have q2 := y2 ys ky
      rw [f3] at q1
      rw [f4] at q2
      cases q1
      cases q2
      exact ⟨_, Stp.newS ok hn, .tup (SqT.of upd_same) (.cons ((r3.mono (Same.trans hg4 sg)).mono (same_upd (ok.s.free hn))) (.cons ((r4.mono sg).mono (same_upd (ok.s.free hn))) .nil))⟩
  match z, z2, hz with
  | .lst ds, .lst ds2, hz => cases hz; exact both true ds ds2 rfl rfl rfl
  | .tup ds, .tup ds2, hz => cases hz; exact both false ds ds2 rfl rfl rfl
theorem pi_rv (C : Ctx T fn W cls d sc X) {a : Ex} {g l : Expr} {p p2 : Pos} (hb : blt T sc "reversed" = true) (ha : Snd T fn W cls X a l) (hl : plE l = true) : PI X g (.Call (.Name "reversed" p) [l] [] p2) (tIt T fn W cls X.K (.rev a)) := by
  obtain ⟨g1, g2, g3, g4⟩ := blt_ok C hb
  refine pi_imp (RT.pi_revA g1 g2 ha.pe (plE_star hl)) fun σ H R h => ?_
  obtain ⟨G, ρ, F, h⟩ := h
  refine wantI_seq F h fun z v H1 G1 ez t1 F1 p1 h1 => ?_
  have h0 : WantI W cls X.K (nB T a) ((ev fn a ρ).bind fun x => (items x).bind fun xs => .ok xs.reverse) G H σ R := h
  rw [ez] at h0
  obtain ⟨zs, hz, q⟩ := wantI_ok (ne_bind ne_ok fun x => ne_bind (items_ne x) fun _ => ne_ok) h0
  obtain ⟨ds, hd, hz⟩ := bind_okE (show ((items z).bind fun xs => Den.R.ok xs.reverse) = .ok zs from hz)
  cases hz
  obtain ⟨l, e1⟩ := items_cases hd
  obtain ⟨G3, c, xs, t3, e3, s, hg3⟩ := seq_of (l := l) e1 (nB T a) nB_imp t1 p1
  have hlen := s.rp.len
  refine ⟨c, xs, e3, ?_⟩
  have hx := s.at_ G3 H1 (Same.refl _) t3.s (.inr (Same.refl _))
  have gets : ∀ {i : Nat} {z : D}, ds.reverse[i]? = some z → i < xs.length ∧ ∃ v, xs[xs.length - 1 - i]? = some v ∧ Rp X.K G3 v z := fun {i z} e => by
    have hi : i < ds.length := by
      have := (List.getElem?_eq_some_iff.mp e).1
      rwa [List.length_reverse] at this
    rw [List.getElem?_reverse hi] at e
    rw [hlen]
    exact ⟨hi, s.rp.get e⟩
  cases l with
  | true =>
    refine .inl ⟨hx, q _ _ _ t3 fun G5 H5 sg ok hk => ?_⟩
    have kx := s.at_ G5 H5 sg ok.s hk
    have kx : SqL X.K H5 c xs := kx
    refine ⟨fun i z e => ?_, by show xs.length ≤ _; rw [List.length_reverse]; omega⟩
    obtain ⟨hi, v', f3, r3⟩ := gets e
    refine ⟨⟨hi, xs, v', kx, f3⟩, fun x H' y => ?_⟩
    obtain ⟨rfl, y⟩ := y
    have := y xs kx
    rw [f3] at this
    cases this
    exact ⟨G5, Stp.refl ok, r3.mono sg⟩
  | false =>
    refine .inr ⟨hx, q _ _ _ t3 fun G5 H5 sg ok hk => ?_⟩
    have kx := s.at_ G5 H5 sg ok.s hk
    have kx : SqT X.K H5 c xs := kx
    refine ⟨fun i z e => ?_, by show xs.length ≤ _; rw [List.length_reverse]; omega⟩
    obtain ⟨hi, v', f3, r3⟩ := gets e
    refine ⟨⟨hi, xs, v', kx, f3⟩, fun x H' y => ?_⟩
    obtain ⟨rfl, y⟩ := y
    have := y xs kx
    rw [f3] at this
    cases this
    exact ⟨G5, Stp.refl ok, r3.mono sg⟩
end
end Den
namespace Den
open PySem PySem.Spec PyProof.Rows L2
section
variable {T : Tbl} {fn : Nat → List D → R D} {W : WX} {cls : Nat → Value} {d : Bool} {sc : Scope} {X : Cx} {K : PySem.W.Frag} {own : Nat → Bool}
theorem set_get {α : Type} {l : List α} {i j : Nat} {a b : α} (h : (l.set i a)[j]? = some b) : (i = j ∧ a = b) ∨ (i ≠ j ∧ l[j]? = some b) := by
  by_cases e : i = j
  · subst e
    by_cases hi : i < l.length
    · rw [List.getElem?_set_self hi] at h
      exact .inl ⟨rfl, Option.some.inj h⟩
    · rw [List.getElem?_eq_none (by rw [List.length_set]; omega)] at h
      cases h
  · rw [List.getElem?_set_ne e] at h
    exact .inr ⟨e, h⟩
theorem set_at {α : Type} {l : List α} {i : Nat} {a b c : α} (h : (l.set i b)[i]? = some c) : (l.set i a)[i]? = some a := by
  have hi : i < l.length := by
    have := (List.getElem?_eq_some_iff.mp h).1
    rwa [List.length_set] at this
  exact List.getElem?_set_self hi
/-- a shared value into a slot that is not own -/
theorem FI.setS {G H : Hp} {ρ : Env} {σ : L2.St} {i : Nat} {v : V} {z : D} (F : FI K own G ρ σ H) (hi : own i = false) (r : Rp K G v z) : FI K own G (setV ρ i z) (σ.set i (some v)) H where
  ok := F.ok
  len := by unfold setV; rw [List.length_set, List.length_set]; exact F.len
  sh := fun j e hj h => by
    unfold setV at h
    rcases set_get h with ⟨rfl, h2⟩ | ⟨h1, h2⟩
    · cases h2
      refine ⟨v, ?_, r⟩
      have : i < ρ.length := by
        have := (List.getElem?_eq_some_iff.mp h).1
        rwa [List.length_set] at this
      rw [List.getElem?_set_self (by rw [← F.len]; exact this)]
    · rw [List.getElem?_set_ne h1]
      exact F.sh j e hj h2
  ow := fun j e hj h => by
    unfold setV at h
    rcases set_get h with ⟨rfl, h2⟩ | ⟨h1, h2⟩
    · rw [hi] at hj; cases hj
    · rw [List.getElem?_set_ne h1]
      exact F.ow j e hj h2
  ap := fun j k a x y hj hk h1 h2 h3 h4 => by
    unfold setV at h1 h2
    rcases set_get h1 with ⟨rfl, _⟩ | ⟨n1, h1⟩
    · rw [hi] at hj; cases hj
    · rcases set_get h2 with ⟨rfl, _⟩ | ⟨n2, h2⟩
      · rw [hi] at hk; cases hk
      · rw [List.getElem?_set_ne n1] at h3
        rw [List.getElem?_set_ne n2] at h4
        exact F.ap j k a x y hj hk h1 h2 h3 h4
/-- a slot forgotten -/
theorem FI.unset {G H : Hp} {ρ : Env} {σ : L2.St} {i : Nat} (F : FI K own G ρ σ H) (o : Option V) : FI K own G (ρ.set i none) (σ.set i o) H where
  ok := F.ok
  len := by rw [List.length_set, List.length_set]; exact F.len
  sh := fun j e hj h => by
    rcases set_get h with ⟨_, h2⟩ | ⟨h1, h2⟩
    · cases h2
    · rw [List.getElem?_set_ne h1]
      exact F.sh j e hj h2
  ow := fun j e hj h => by
    rcases set_get h with ⟨rfl, h2⟩ | ⟨h1, h2⟩
    · cases h2
    · rw [List.getElem?_set_ne h1]
      exact F.ow j e hj h2
  ap := fun j k a x y hj hk h1 h2 h3 h4 => by
    rcases set_get h1 with ⟨_, h1⟩ | ⟨n1, h1⟩
    · cases h1
    · rcases set_get h2 with ⟨_, h2⟩ | ⟨n2, h2⟩
      · cases h2
      · rw [List.getElem?_set_ne n1] at h3
        rw [List.getElem?_set_ne n2] at h4
        exact F.ap j k a x y hj hk h1 h2 h3 h4
theorem FI.wipe {G H : Hp} {ρ : Env} {σ : L2.St} (F : FI K own G ρ σ H) : ∀ vs : List Nat, FI K own G (wipeE ρ vs) (L2.wipe σ vs) H
  | [] => F
  | v :: vs => (FI.wipe F vs).unset none
theorem wipe_set {σ : L2.St} {i : Nat} {o : Option V} : ∀ {vs : List Nat}, i ∈ vs → L2.wipe (σ.set i o) vs = L2.wipe σ vs
  | v :: vs, h => by
    unfold L2.wipe
    by_cases hi : i ∈ vs
    · rw [wipe_set hi]
    · have hv : i = v := by
        rcases List.mem_cons.mp h with e | e
        · exact e
        · exact absurd e hi
      subst hv
      have aux : ∀ (us : List Nat), i ∉ us → L2.wipe (σ.set i o) us = (L2.wipe σ us).set i o := by
        intro us
        induction us with
        | nil => intro _; rfl
        | cons u us ih =>
          intro hu
          simp only [List.mem_cons, not_or] at hu
          unfold L2.wipe
          rw [ih hu.2, List.set_comm _ _ hu.1]
      rw [aux vs hi, List.set_set]
theorem wipe_idem {σ : L2.St} {vs : List Nat} : L2.wipe (L2.wipe σ vs) vs = L2.wipe σ vs := by
  have aux : ∀ us : List Nat, (∀ u ∈ us, u ∈ vs) → L2.wipe (L2.wipe σ us) vs = L2.wipe σ vs := by
    intro us
    induction us with
    | nil => intro _; rfl
    | cons u us ih =>
      intro hu
      show L2.wipe ((L2.wipe σ us).set u none) vs = _
      rw [wipe_set (hu u (by simp)), ih fun x hx => hu x (List.mem_cons_of_mem _ hx)]
  exact aux vs fun _ h => h
def gNs : List Nat → TGs
  | [] => gNil
  | i :: is => gCons (gName i) (gNs is)
def gT (K : PySem.W.Frag) : Tg → TG
  | .one i => gName i
  | .many is => fun v σ H Q => gTup K is.length (gNs is) v σ H Q ∨ gUnl K is.length (gNs is) v σ H Q
  | .nest is j => gTup K 2 (gCons (gTup K is.length (gNs is)) (gCons (gName j) gNil))
theorem pg_or {e : Expr} {t u : TG} (h1 : PG X e t) (h2 : PG X e u) : PG X e (fun v σ H Q => t v σ H Q ∨ u v σ H Q) :=
  ⟨fun pins s σ H v w Q I r h => h.elim (h1.run pins s σ H v w Q I r) (h2.run pins s σ H v w Q I r)⟩
theorem gNs_read : ∀ (is : List Nat) (G H : Hp) (ρ ρ' : Env) (σ : L2.St) (vs : List V) (zs : List D) (Q : L2.St → Hp → Prop), (∀ i ∈ is, own i = false) → FI K own G ρ σ H → RpL K G vs zs → setVs ρ is zs = .ok ρ' →
      (∀ σ', FI K own G ρ' σ' H → (∀ us : List Nat, (∀ i ∈ is, i ∈ us) → L2.wipe σ' us = L2.wipe σ us) → Q σ' H) → gNs is vs σ H Q
  | [], G, H, ρ, ρ', σ, vs, zs, Q, ho, F, r, e, q => by
    cases zs with
    | nil =>
      cases e
      cases r
      exact ⟨rfl, q σ F fun _ _ => rfl⟩
    | cons _ _ => cases e
  | i :: is, G, H, ρ, ρ', σ, vs, zs, Q, ho, F, r, e, q => by
    cases zs with
    | nil => cases e
    | cons z zs =>
      cases r with
      | cons r rr =>
        refine ⟨_, _, rfl, ?_⟩
        refine gNs_read is G H (setV ρ i z) ρ' _ _ zs Q (fun j hj => ho j (List.mem_cons_of_mem _ hj)) (F.setS (ho i (by simp)) r) rr e fun σ' F' hw => q σ' F' fun us hu => ?_
        rw [hw us fun j hj => hu j (List.mem_cons_of_mem _ hj), wipe_set (hu i (by simp))]
def tgS : Tg → List Nat
  | .one i => [i]
  | .many is => is
  | .nest is j => j :: is
/-- a nested target's data -/
theorem nest_inv {ρ ρ' : Env} {is : List Nat} {j : Nat} {z : D} (h : bindT ρ (.nest is j) z = .ok ρ') : ∃ ds w ρ1, z = .tup [.tup ds, w] ∧ ds.length = is.length ∧ setVs ρ is ds = .ok ρ1 ∧ ρ' = setV ρ1 j w := by
  unfold bindT at h
  split at h
  · cases ‹Tg.nest is j = Tg.one _›
  · cases ‹Tg.nest is j = Tg.many _›
  · cases ‹Tg.nest is j = Tg.many _›
  · cases ‹Tg.nest is j = Tg.many _›
  · rename_i is' j' ds w _
    cases ‹Tg.nest is j = Tg.nest is' j'›
    obtain ⟨g1, g2⟩ := guard_ok h
    obtain ⟨ρ1, h1, h2⟩ := bind_okE g2
    cases h2
    exact ⟨ds, w, ρ1, rfl, of_decide_eq_true g1, h1, rfl⟩
  · cases h
theorem gT_read {tg : Tg} {G H : Hp} {ρ ρ' : Env} {σ : L2.St} {v : V} {z : D} {Q : L2.St → Hp → Prop} (ho : ∀ i ∈ tgS tg, own i = false) (F : FI K own G ρ σ H) (r : Rp K G v z) (e : bindT ρ tg z = .ok ρ')
    (q : ∀ σ', FI K own G ρ' σ' H → (∀ us : List Nat, (∀ i ∈ tgS tg, i ∈ us) → L2.wipe σ' us = L2.wipe σ us) → Q σ' H) : gT K tg v σ H Q := by
  cases tg with
  | one i =>
    cases e
    exact q _ (F.setS (ho i (by simp [tgS])) r) fun us hu => wipe_set (hu i (by simp [tgS]))
  | many is =>
    cases z with
    | tup ds =>
      obtain ⟨g1, g2⟩ := guard_ok e
      obtain ⟨a, xs, rfl, h1, h2⟩ := tup_inv r
      exact .inl ⟨a, xs, rfl, seqT F.sub h1, by rw [h2.len]; exact of_decide_eq_true g1, gNs_read is G H ρ ρ' σ xs ds Q ho F h2 g2 q⟩
    | lst ds =>
      obtain ⟨g1, g2⟩ := guard_ok e
      obtain ⟨a, xs, rfl, h1, h2⟩ := lst_inv r
      exact .inr ⟨a, xs, rfl, F.sub.seq h1, by rw [h2.len]; exact of_decide_eq_true g1, gNs_read is G H ρ ρ' σ xs ds Q ho F h2 g2 q⟩
    | _ => cases e
  | nest is j =>
    obtain ⟨ds, w, ρ1, rfl, hl, e1, rfl⟩ := nest_inv e
    obtain ⟨a, xs, rfl, h1, h2⟩ := tup_inv r
    cases h2 with
    | cons r1 h2 =>
      cases h2 with
      | cons r2 h2 =>
        cases h2
        obtain ⟨b, ys, rfl, h3, h4⟩ := tup_inv r1
        refine ⟨a, _, rfl, seqT F.sub h1, rfl, _, _, rfl, ⟨b, ys, rfl, seqT F.sub h3, by rw [h4.len]; exact hl, ?_⟩⟩
        refine gNs_read is G H ρ ρ1 σ ys ds _ (fun i hi => ho i (List.mem_cons_of_mem _ hi)) F h4 e1 fun σ' F' hw => ?_
        refine ⟨_, _, rfl, rfl, q _ (F'.setS (ho j (by simp [tgS])) r2) fun us hu => ?_⟩
        rw [wipe_set (hu j (by simp [tgS])), hw us fun i hi => hu i (List.mem_cons_of_mem _ hi)]
/-- the names of a target, one after another -/
theorem names_ok (C : Ctx T fn W cls d sc X) : ∀ {is : List Nat} {es : List Expr}, mNames T d sc is es = true → PGs X es (gNs is) ∧ (assignEach es X.env).length = is.length ∧ (assignEach es X.env).findIdx? (·.1) = none ∧ ∀ i ∈ is, T.isOwn i = false
  | [], [], _ => ⟨pgs_nil, rfl, rfl, by simp⟩
  | i :: is, e :: es, h => by
    cases e with
    | Name x p =>
      unfold mNames at h
      rw [Bool.and_eq_true, Bool.and_eq_true, Bool.and_eq_true, decide_eq_true_eq] at h
      obtain ⟨ht, hl, hx, hq⟩ := names_ok C h.2
      obtain ⟨l1, l2⟩ := locB_ok h.1.1.2
      have ho : T.isOwn i = false := by have := h.1.2; cases q : T.isOwn i <;> simp_all
      have hg : PG X (.Name x p) (gName i) := pg_name (by rw [C.hN]; exact C.nd) (by rw [C.hN]; exact h.1.1.1) (by rw [C.hs]; exact l1) (by
        cases d with
        | true => exact .inl (C.fnc rfl x)
        | false => exact .inr (by rw [C.hs]; exact l2 rfl))
      have e1 : assignEach (.Name x p :: es) X.env = (false, assign (.Name x p) X.env) :: assignEach es X.env := rfl
      refine ⟨pgs_cons hg ht, by rw [e1, List.length_cons, List.length_cons, hl], ?_, fun j hj => ?_⟩
      · rw [e1, List.findIdx?_cons, hx]; rfl
      · rcases List.mem_cons.mp hj with q | q
        · rw [q]; exact ho
        · exact hq j q
    | _ => cases h
  | [], _ :: _, h => by cases h
  | _ :: _, [], h => by cases h
theorem tg_ok (C : Ctx T fn W cls d sc X) {tg : Tg} {g : Expr} (h : mTg T d sc tg g = true) : PG X g (gT X.K tg) ∧ ∀ i ∈ tgS tg, T.isOwn i = false := by
  cases tg with
  | one i =>
    cases g with
    | Name x p =>
      unfold mTg at h
      rw [Bool.and_eq_true, Bool.and_eq_true, decide_eq_true_eq] at h
      obtain ⟨l1, l2⟩ := locB_ok h.1.2
      have ho : T.isOwn i = false := by have := h.2; cases q : T.isOwn i <;> simp_all
      refine ⟨pg_name (by rw [C.hN]; exact C.nd) (by rw [C.hN]; exact h.1.1) (by rw [C.hs]; exact l1) (by
        cases d with
        | true => exact .inl (C.fnc rfl x)
        | false => exact .inr (by rw [C.hs]; exact l2 rfl)), fun j hj => ?_⟩
      have e : j = i := by simpa [tgS] using hj
      rw [e]
      exact ho
    | _ => cases h
  | many is =>
    cases g with
    | Tuple es k p =>
      obtain ⟨ht, hl, hx, hq⟩ := names_ok C (is := is) (es := es) h
      exact ⟨pg_or (pg_tup C.calm ht hl hx) (pg_unl C.calm ht hl hx), hq⟩
    | _ => cases h
  | nest is j =>
    unfold mTg at h
    split at h
    · cases ‹Tg.nest is j = Tg.one _›
    · cases ‹Tg.nest is j = Tg.many _›
    · rename_i is' j' es k p x p2 k2 p3 _
      cases ‹Tg.nest is j = Tg.nest is' j'›
      simp only [Bool.and_eq_true, decide_eq_true_eq] at h
      obtain ⟨⟨⟨h1, h2⟩, h3⟩, h4⟩ := h
      obtain ⟨ht, hl, hx, hq⟩ := names_ok C (is := is) (es := es) h1
      obtain ⟨l1, l2⟩ := locB_ok h3
      have ho : T.isOwn j = false := by cases q : T.isOwn j <;> simp_all
      have hg : PG X (.Name x p2) (gName j) := pg_name (by rw [C.hN]; exact C.nd) (by rw [C.hN]; exact h2) (by rw [C.hs]; exact l1) (by
        cases d with
        | true => exact .inl (C.fnc rfl x)
        | false => exact .inr (by rw [C.hs]; exact l2 rfl))
      refine ⟨pg_tup C.calm (pgs_cons (pg_tup C.calm ht hl hx) (pgs_cons hg pgs_nil)) rfl rfl, fun i hi => ?_⟩
      rcases List.mem_cons.mp hi with q | q
      · rw [q]; exact ho
      · exact hq i q
    · cases h
theorem compL_cons {f : D → R (Option D)} {x : D} {r : List D} {ds : List D} (h : compL f (x :: r) = .ok ds) : ∃ o rs, f x = .ok o ∧ compL f r = .ok rs ∧ ds = (match o with | some d => d :: rs | none => rs) := by
  rw [compL] at h
  obtain ⟨o, e1, h⟩ := bind_okE h
  obtain ⟨rs, e2, h⟩ := bind_okE h
  cases h
  exact ⟨o, rs, e1, e2, rfl⟩
theorem nox_ok' {α : Type} {r : R α} {a : α} (h : r.nox = .ok a) : r = .ok a := by
  cases r with
  | ok b => exact h
  | exc c => cases h
  | bad => cases h
theorem nox_ne {α : Type} (r : R α) : ∀ c, r.nox ≠ .exc c := by
  cases r <;> exact fun _ q => nomatch q
def accP (D : Addr) (P : Hp → Prop) : Option V → Hp → Prop
  | some y, H4 => ∃ acc, H4 D = some (.lst acc) ∧ acc.length < sizeLine ∧ P (upd H4 D (.lst (acc ++ [y])))
  | none, H4 => P H4
/-- the turns of a comprehension; f: what a turn gives, by data -/
theorem lc_read {it : Itr} {own : List Nat} {g : TG} {tt : TT} {te : TE} {f : D → R (Option D)} {σ : L2.St} {H G : Hp} {ρ : Env} {Q : VK} (hown : ∀ i ∈ own, T.isOwn i = false) (F : FI X.K T.isOwn G ρ σ H)
    (h : Want W cls X.K .T ((evi fn it ρ).bind fun xs => .guard (decide (xs.length ≤ Line)) ((compL f xs).nox.bind fun ds => .ok (.lst ds))) G H σ Q)
    (turn : ∀ (G H : Hp) (x : V) (z : D) (o : Option D) (P : Option V → Hp → Prop), FI X.K T.isOwn G (wipeE ρ own) (L2.wipe σ own) H → Rp X.K G x z → f z = .ok o →
      (∀ ov H' G', Stp G H G' H' → (match o, ov with | some w, some v => Rp X.K G' v w | none, none => True | _, _ => False) → P ov H') →
      g x (L2.wipe σ own) H fun σ2 H2 => L2.wipe σ2 own = L2.wipe σ own ∧ tt σ2 H2 fun b H3 => if b = true then te σ2 H3 fun y H4 => P (some y) H4 else P none H3) :
    tLc (tIt T fn W cls X.K it) g tt te own σ H Q := by
  refine ⟨G, ρ, F, ?_⟩
  cases e : evi fn it ρ with
  | exc c => rw [e] at h; exact h
  | bad => rw [e] at h; exact h
  | ok xs =>
    rw [e] at h
    obtain ⟨z, hz, q⟩ := want_pure (ne_guard (ne_bind (nox_ne _) fun _ => ne_ok)) h
    obtain ⟨g1, g2⟩ := guard_ok hz
    obtain ⟨ds, hd, e3⟩ := bind_okE g2
    cases e3
    have hd := nox_ok' hd
    have hxs : xs.length ≤ Line := of_decide_eq_true g1
    intro J H1 G1 t1 yl D nD
    have F1 := F.step t1
    have gD : G1 D = none := t1.s.free nD
    refine ⟨fun i m Hc => m = xs.length - i ∧ i ≤ xs.length ∧ ∃ Gc acc done rest, Stp G1 H1 Gc Hc ∧ Hc D = some (.lst acc) ∧ Gc D = none ∧ RpL X.K Gc acc done ∧ compL f (xs.drop i) = .ok rest ∧ ds = done ++ rest ∧ done.length ≤ i,
      ⟨xs.length, by omega, Nat.zero_le _, G1, [], [], ds, Stp.newO F1.ok nD trivial, upd_same, gD, .nil, by rw [List.drop_zero]; exact hd, rfl, Nat.le_refl _⟩, ?_⟩
    rintro i m Hc ⟨rfl, hi, Gc, acc, done, rest, tc, hD, hgD, hr, hcl, hds, hdl⟩
    obtain ⟨y1, y2⟩ := yl Gc Hc tc.g tc.o (.inr tc.h)
    by_cases hlt : i < xs.length
    · have hx : xs[i]? = some xs[i] := List.getElem?_eq_getElem hlt
      obtain ⟨go, yy⟩ := y1 i _ hx
      have hdrop : xs.drop i = xs[i] :: xs.drop (i + 1) := List.drop_eq_getElem_cons hlt
      rw [hdrop] at hcl
      obtain ⟨o, rs, ho, hrs, hrest⟩ := compL_cons hcl
      refine .inr ⟨go, fun H' => ∃ G' acc' done', Stp G1 H1 G' H' ∧ H' D = some (.lst acc') ∧ G' D = none ∧ RpL X.K G' acc' done' ∧ ds = done' ++ rs ∧ done'.length ≤ i + 1, fun H' hN => ?_, fun x H' hy => ?_⟩
      · obtain ⟨G', acc', done', a1, a2, a3, a4, a5, a6⟩ := hN
        exact ⟨xs.length - (i + 1), by omega, rfl, hlt, G', acc', done', rs, a1, a2, a3, a4, hrs, a5, a6⟩
      · obtain ⟨G', t', rx⟩ := yy x H' hy
        have tt' := tc.trans t'
        have Fw := ((F1.step tt').wipe own)
        have hD' : H' D = some (.lst acc) := t'.h _ _ hD
        have hg' : G' D = none := t'.k _ _ hD hgD
        refine turn G' H' x xs[i] o (accP D fun H' => ∃ G' acc' done', Stp G1 H1 G' H' ∧ H' D = some (.lst acc') ∧ G' D = none ∧ RpL X.K G' acc' done' ∧ ds = done' ++ rs ∧ done'.length ≤ i + 1) Fw rx ho fun ov H4 G4 t4 hm => ?_
        have hD4 : H4 D = some (.lst acc) := t4.h _ _ hD'
        have hg4 : G4 D = none := t4.k _ _ hD' hg'
        have t5 := tt'.trans t4
        cases ov with
        | some y =>
          cases o with
          | none => exact hm.elim
          | some w =>
            have hl := hr.len
            refine ⟨acc, hD4, by rw [sizeLn]; omega, G4, acc ++ [y], done ++ [w], ⟨fun b u q => ?_, t5.g, ⟨fun b u q => ?_, fun b u q n => ?_⟩, t5.k⟩, upd_same, hg4, ((hr.mono t'.g).mono t4.g).append (.cons hm .nil), ?_, by rw [List.length_append]; exact Nat.succ_le_succ hdl⟩
            · rw [upd_ne (ne_of_none q nD)]; exact t5.h _ _ q
            · rw [upd_ne (ne_of_none q hg4)]; exact t5.s _ _ q
            · by_cases hb : b = D
              · subst hb; rw [upd_same] at q; cases q; exact trivial
              · rw [upd_ne hb] at q; exact t5.o.z _ _ q n
            · rw [hds, hrest, List.append_assoc]; rfl
        | none =>
          cases o with
          | some w => exact hm.elim
          | none => exact ⟨G4, acc, done, t5, hD4, hg4, (hr.mono t'.g).mono t4.g, by rw [hds, hrest], by omega⟩
    · have ei : i = xs.length := by omega
      subst ei
      refine .inl ⟨y2, ?_⟩
      rw [List.drop_length] at hcl
      cases hcl
      rw [List.append_nil] at hds
      subst hds
      exact q _ _ _ (t1.trans tc) ⟨D, .lst acc, rfl, t1.h.free nD, hD, hgD, .lst hr⟩
end
end Den
namespace Den
open PySem PySem.Spec PyProof.Rows L2
abbrev IsZ (h : Heap) (b : Addr) (f0 : Value) (f : Bool) : Prop :=
  h.get? (b + 6) = some { cls := .type "zip", dict := none, data := .fields #[f0, .bool f, .bool false, .ref (b + 4), .ref (b + 5)], slots := #[] }
abbrev Is4 (h : Heap) (T : Addr) (x y z w : Value) : Prop := h.get? T = some { cls := .type "tuple", data := .seq #[x, y, z, w] }
/-- the parts of the walk but the zip and its own tuple -/
structure C4 (b l1 l2 l3 l4 : Addr) (xs ys zs ws : Array Value) (n1 n2 n3 n4 : Nat) (h : Heap) : Prop where
  ti : Is4 h (b + 4) (.ref b) (.ref (b + 1)) (.ref (b + 2)) (.ref (b + 3))
  i1 : h.IsListIter b l1 n1
  i2 : h.IsListIter (b + 1) l2 n2
  i3 : h.IsListIter (b + 2) l3 n3
  i4 : h.IsListIter (b + 3) l4 n4
  L1 : h.IsList l1 xs
  L2 : h.IsList l2 ys
  L3 : h.IsList l3 zs
  L4 : h.IsList l4 ws
section
variable {b l1 l2 l3 l4 : Addr} {xs ys zs ws : Array Value} {n1 n2 n3 n4 : Nat} {h h' : Heap}
theorem C4.mv (C : C4 b l1 l2 l3 l4 xs ys zs ws n1 n2 n3 n4 h) (k : ∀ c o, c = b + 4 ∨ c = b ∨ c = b + 1 ∨ c = b + 2 ∨ c = b + 3 ∨ c = l1 ∨ c = l2 ∨ c = l3 ∨ c = l4 → h.get? c = some o → h'.get? c = some o) : C4 b l1 l2 l3 l4 xs ys zs ws n1 n2 n3 n4 h' :=
  ⟨k _ _ (by simp) C.ti, C.i1.at fun o e => k _ o (by simp) e, C.i2.at fun o e => k _ o (by simp) e, C.i3.at fun o e => k _ o (by simp) e, C.i4.at fun o e => k _ o (by simp) e,
    C.L1.at fun o e => k _ o (by simp) e, C.L2.at fun o e => k _ o (by simp) e, C.L3.at fun o e => k _ o (by simp) e, C.L4.at fun o e => k _ o (by simp) e⟩
variable (d1 : l1 < b) (d2 : l2 < b) (d3 : l3 < b) (d4 : l4 < b)
include d1 d2 d3 d4
theorem C4.off (C : C4 b l1 l2 l3 l4 xs ys zs ws n1 n2 n3 n4 h) {c : Addr} (hc : b + 5 ≤ c) (s : Heap.SameBut c h h') : C4 b l1 l2 l3 l4 xs ys zs ws n1 n2 n3 n4 h' :=
  C.mv fun d o e q => s.extBut _ _ (by (simp only [Addr] at *; omega)) q
theorem C4.s1 (C : C4 b l1 l2 l3 l4 xs ys zs ws n1 n2 n3 n4 h) (s : Heap.SameBut b h h') {m : Nat} (e : h'.IsListIter b l1 m) : C4 b l1 l2 l3 l4 xs ys zs ws m n2 n3 n4 h' :=
  ⟨s.extBut _ _ (by (simp only [Addr] at *; omega)) C.ti, e, C.i2.at fun o e => s.extBut _ _ (by (simp only [Addr] at *; omega)) e, C.i3.at fun o e => s.extBut _ _ (by (simp only [Addr] at *; omega)) e, C.i4.at fun o e => s.extBut _ _ (by (simp only [Addr] at *; omega)) e,
    C.L1.at fun o e => s.extBut _ _ (by (simp only [Addr] at *; omega)) e, C.L2.at fun o e => s.extBut _ _ (by (simp only [Addr] at *; omega)) e, C.L3.at fun o e => s.extBut _ _ (by (simp only [Addr] at *; omega)) e, C.L4.at fun o e => s.extBut _ _ (by (simp only [Addr] at *; omega)) e⟩
theorem C4.s2 (C : C4 b l1 l2 l3 l4 xs ys zs ws n1 n2 n3 n4 h) (s : Heap.SameBut (b + 1) h h') {m : Nat} (e : h'.IsListIter (b + 1) l2 m) : C4 b l1 l2 l3 l4 xs ys zs ws n1 m n3 n4 h' :=
  ⟨s.extBut _ _ (by (simp only [Addr] at *; omega)) C.ti, C.i1.at fun o e => s.extBut _ _ (by (simp only [Addr] at *; omega)) e, e, C.i3.at fun o e => s.extBut _ _ (by (simp only [Addr] at *; omega)) e, C.i4.at fun o e => s.extBut _ _ (by (simp only [Addr] at *; omega)) e,
    C.L1.at fun o e => s.extBut _ _ (by (simp only [Addr] at *; omega)) e, C.L2.at fun o e => s.extBut _ _ (by (simp only [Addr] at *; omega)) e, C.L3.at fun o e => s.extBut _ _ (by (simp only [Addr] at *; omega)) e, C.L4.at fun o e => s.extBut _ _ (by (simp only [Addr] at *; omega)) e⟩
theorem C4.s3 (C : C4 b l1 l2 l3 l4 xs ys zs ws n1 n2 n3 n4 h) (s : Heap.SameBut (b + 2) h h') {m : Nat} (e : h'.IsListIter (b + 2) l3 m) : C4 b l1 l2 l3 l4 xs ys zs ws n1 n2 m n4 h' :=
  ⟨s.extBut _ _ (by (simp only [Addr] at *; omega)) C.ti, C.i1.at fun o e => s.extBut _ _ (by (simp only [Addr] at *; omega)) e, C.i2.at fun o e => s.extBut _ _ (by (simp only [Addr] at *; omega)) e, e, C.i4.at fun o e => s.extBut _ _ (by (simp only [Addr] at *; omega)) e,
    C.L1.at fun o e => s.extBut _ _ (by (simp only [Addr] at *; omega)) e, C.L2.at fun o e => s.extBut _ _ (by (simp only [Addr] at *; omega)) e, C.L3.at fun o e => s.extBut _ _ (by (simp only [Addr] at *; omega)) e, C.L4.at fun o e => s.extBut _ _ (by (simp only [Addr] at *; omega)) e⟩
theorem C4.s4 (C : C4 b l1 l2 l3 l4 xs ys zs ws n1 n2 n3 n4 h) (s : Heap.SameBut (b + 3) h h') {m : Nat} (e : h'.IsListIter (b + 3) l4 m) : C4 b l1 l2 l3 l4 xs ys zs ws n1 n2 n3 m h' :=
  ⟨s.extBut _ _ (by (simp only [Addr] at *; omega)) C.ti, C.i1.at fun o e => s.extBut _ _ (by (simp only [Addr] at *; omega)) e, C.i2.at fun o e => s.extBut _ _ (by (simp only [Addr] at *; omega)) e, C.i3.at fun o e => s.extBut _ _ (by (simp only [Addr] at *; omega)) e, e,
    C.L1.at fun o e => s.extBut _ _ (by (simp only [Addr] at *; omega)) e, C.L2.at fun o e => s.extBut _ _ (by (simp only [Addr] at *; omega)) e, C.L3.at fun o e => s.extBut _ _ (by (simp only [Addr] at *; omega)) e, C.L4.at fun o e => s.extBut _ _ (by (simp only [Addr] at *; omega)) e⟩
end
/-- the zip itself: before its first tuple; or with a tuple of its out -/
def Z4 (b l1 l2 l3 l4 : Addr) (xs ys zs ws : Array Value) (i : Nat) (h : Heap) : Prop :=
  C4 b l1 l2 l3 l4 xs ys zs ws i i i i h ∧ ((IsZ h b .none false ∧ Is4 h (b + 5) .none .none .none .none) ∨ (∃ (T : Addr) (f : Bool) (o : Obj), IsZ h b (rawInt T) f ∧ h.get? T = some o ∧ b + 7 < T))
section
variable {prog : Program} {w : World} {A : Around} {E : Value → Shared → Prop} {s : Shared}
variable {b l1 l2 l3 l4 : Addr} {xs ys zs ws : Array Value} {i : Nat} {x1 x2 x3 x4 : Value}
theorem up4 {T : Addr} {p q r t x : Value} {k : Nat} {Q : Unit → Shared → Prop} (hT : Is4 s.heap T p q r t)
    (h : ∀ h', h'.get? T = some { cls := .type "tuple", data := .seq ((#[p, q, r, t] : Array Value).setIfInBounds k x) } → Heap.SameBut T s.heap h' → Q () { s with heap := h' }) :
    wpAny (model prog w) A (updateSeq T (·.setIfInBounds k x)) Q E s := by
  refine wpAny_updateSeq hT rfl (h _ ?_ (Heap.SameBut.update ..))
  rw [Heap.get?_update_self _ hT rfl]
  simp [Obj.mapSeq]
theorem z4_item {Q : Value → Shared → Prop} (hbs : b + 7 < s.heap.objs.size) (d1 : l1 < b) (d2 : l2 < b) (d3 : l3 < b) (d4 : l4 < b) (hz : Z4 b l1 l2 l3 l4 xs ys zs ws i s.heap)
    (h1 : xs[i]? = some x1) (h2 : ys[i]? = some x2) (h3 : zs[i]? = some x3) (h4 : ws[i]? = some x4)
    (hQ : ∀ h', Z4 b l1 l2 l3 l4 xs ys zs ws (i + 1) h' → Is4 h' s.heap.objs.size x1 x2 x3 x4 → h'.objs.size = s.heap.objs.size + 1 →
      (∀ c o, c ∉ [b, b + 1, b + 2, b + 3, b + 4, b + 5, b + 6] → s.heap.get? c = some o → h'.get? c = some o) → Q (.ref s.heap.objs.size) { s with heap := h' }) :
    wpAny (model prog w) A (Builtin.«zip.__next__» ⟨[.ref (b + 6)], []⟩) (fun fin s' => ∃ v, fin = .done (.ret v) ∧ Q v s') E s := by
  obtain ⟨C, hz⟩ := hz
  rcases hz with ⟨hz, hTO⟩ | ⟨T, f, o, hz, hT, hTb⟩
  · show wpAny _ _ (field (.ref (b + 6)) 2 >>= _) _ _ _
    refine wpAny_bind (wpAny_field hz rfl (x := .bool false) rfl ?_)
    show wpAny _ _ (field (.ref (b + 6)) 3 >>= _) _ _ _
    refine wpAny_bind (wpAny_field hz rfl (x := .ref (b + 4)) rfl ?_)
    refine wpAny_bind (wpAny_seqItems C.ti rfl ?_)
    show wpAny _ _ (Builtin.SmallTypes.ownedTupleIsFree (.ref (b + 6)) >>= _) _ _ _
    refine wpAny_bind ?_
    unfold Builtin.SmallTypes.ownedTupleIsFree
    refine wpAny_bind (wpAny_field hz rfl (x := .none) rfl (wpAny_pure ?_))
    simp only [if_true]
    refine wpAny_bind (wpAny_rule ?_)
    refine wpAny_bind (wpAny_field hz rfl (x := .ref (b + 5)) rfl ?_)
    refine wpAny_bind (wpAny_setField_rec hz (by simp) fun g1 z1 s1 => ?_)
    replace z1 : IsZ g1 b .ellipsis false := z1
    have C := C.off d1 d2 d3 d4 (by (simp only [Addr] at *; omega)) s1
    have hTO := s1.extBut _ _ (by (simp only [Addr] at *; omega)) hTO
    refine wpAny_bind ?_
    simp only [List.zipIdx_cons, List.zipIdx_nil, List.forIn_cons, List.forIn_nil]
    refine wpAny_bind (wpAny_bind (wpAny_onRaise ?_))
    show wpAny _ _ (Builtin.SmallTypes.nextOf (.ref b) >>= _) _ _ _
    refine wpAny_bind (wpAny_nextOf_list_item (s := { s with heap := g1 }) C.i1 C.L1 h1 fun g2 e2 s2 => wpAny_pure ?_)
    have C := C.s1 d1 d2 d3 d4 s2 e2
    have hTO := s2.extBut _ _ (by (simp only [Addr] at *; omega)) hTO
    refine wpAny_bind (wpAny_seqItems hTO rfl ?_)
    refine wpAny_bind (up4 (s := { s with heap := g2 }) hTO fun g3 hTO s3 => ?_)
    replace hTO : Is4 g3 (b + 5) x1 .none .none .none := hTO
    have C := C.off d1 d2 d3 d4 (by (simp only [Addr] at *; omega)) s3
    refine wpAny_bind (wpAny_letGo (wpAny_pure ?_))
    refine wpAny_bind (wpAny_bind (wpAny_onRaise ?_))
    show wpAny _ _ (Builtin.SmallTypes.nextOf (.ref (b + 1)) >>= _) _ _ _
    refine wpAny_bind (wpAny_nextOf_list_item (s := { s with heap := g3 }) C.i2 C.L2 h2 fun g4 e4 s4 => wpAny_pure ?_)
    have C := C.s2 d1 d2 d3 d4 s4 e4
    have hTO := s4.extBut _ _ (by (simp only [Addr] at *; omega)) hTO
    refine wpAny_bind (wpAny_seqItems hTO rfl ?_)
    refine wpAny_bind (up4 (s := { s with heap := g4 }) hTO fun g5 hTO s5 => ?_)
    replace hTO : Is4 g5 (b + 5) x1 x2 .none .none := hTO
    have C := C.off d1 d2 d3 d4 (by (simp only [Addr] at *; omega)) s5
    refine wpAny_bind (wpAny_letGo (wpAny_pure ?_))
    refine wpAny_bind (wpAny_bind (wpAny_onRaise ?_))
    show wpAny _ _ (Builtin.SmallTypes.nextOf (.ref (b + 2)) >>= _) _ _ _
    refine wpAny_bind (wpAny_nextOf_list_item (s := { s with heap := g5 }) C.i3 C.L3 h3 fun g6 e6 s6 => wpAny_pure ?_)
    have C := C.s3 d1 d2 d3 d4 s6 e6
    have hTO := s6.extBut _ _ (by (simp only [Addr] at *; omega)) hTO
    refine wpAny_bind (wpAny_seqItems hTO rfl ?_)
    refine wpAny_bind (up4 (s := { s with heap := g6 }) hTO fun g7 hTO s7 => ?_)
    replace hTO : Is4 g7 (b + 5) x1 x2 x3 .none := hTO
    have C := C.off d1 d2 d3 d4 (by (simp only [Addr] at *; omega)) s7
    refine wpAny_bind (wpAny_letGo (wpAny_pure ?_))
    refine wpAny_bind (wpAny_bind (wpAny_onRaise ?_))
    show wpAny _ _ (Builtin.SmallTypes.nextOf (.ref (b + 3)) >>= _) _ _ _
    refine wpAny_bind (wpAny_nextOf_list_item (s := { s with heap := g7 }) C.i4 C.L4 h4 fun g8 e8 s8 => wpAny_pure ?_)
    have C := C.s4 d1 d2 d3 d4 s8 e8
    have hTO := s8.extBut _ _ (by (simp only [Addr] at *; omega)) hTO
    refine wpAny_bind (wpAny_seqItems hTO rfl ?_)
    refine wpAny_bind (up4 (s := { s with heap := g8 }) hTO fun g9 hTO s9 => ?_)
    replace hTO : Is4 g9 (b + 5) x1 x2 x3 x4 := hTO
    have C := C.off d1 d2 d3 d4 (by (simp only [Addr] at *; omega)) s9
    refine wpAny_bind (wpAny_letGo (wpAny_pure (wpAny_pure ?_)))
    refine wpAny_bind (wpAny_seqItems hTO rfl ?_)
    refine wpAny_bind (wpAny_newTuple ?_)
    have hsz : g9.objs.size = s.heap.objs.size := by rw [s9.1, s8.1, s7.1, s6.1, s5.1, s4.1, s3.1, s2.1, s1.1]
    have hk : ∀ c o, c ≠ b → c ≠ b + 1 → c ≠ b + 2 → c ≠ b + 3 → c ≠ b + 5 → c ≠ b + 6 → s.heap.get? c = some o → g9.get? c = some o := fun c o c1 c2 c3 c4 c5 c6 e =>
      s9.extBut _ _ c5 (s8.extBut _ _ c4 (s7.extBut _ _ c5 (s6.extBut _ _ c3 (s5.extBut _ _ c5 (s4.extBut _ _ c2 (s3.extBut _ _ c5 (s2.extBut _ _ c1 (s1.extBut _ _ c6 e))))))))
    have hz9 : IsZ g9 b .ellipsis false := s9.extBut _ _ (by (simp only [Addr] at *; omega)) (s8.extBut _ _ (by (simp only [Addr] at *; omega)) (s7.extBut _ _ (by (simp only [Addr] at *; omega)) (s6.extBut _ _ (by (simp only [Addr] at *; omega)) (s5.extBut _ _ (by (simp only [Addr] at *; omega)) (s4.extBut _ _ (by (simp only [Addr] at *; omega)) (s3.extBut _ _ (by (simp only [Addr] at *; omega)) (s2.extBut _ _ (by (simp only [Addr] at *; omega)) z1)))))))
    show wpAny _ _ (Builtin.SmallTypes.ownedTupleHandOut (.ref (b + 6)) (.ref g9.objs.size) >>= _) _ _ _
    refine wpAny_bind ?_
    unfold Builtin.SmallTypes.ownedTupleHandOut
    have hz10 : IsZ (g9.push { cls := .type "tuple", data := .seq #[x1, x2, x3, x4] }) b .ellipsis false := Heap.get?_push_of_some _ hz9
    refine wpAny_bind (wpAny_setField_rec hz10 (by simp) fun g11 z11 s11 => ?_)
    replace z11 : IsZ g11 b (rawInt g9.objs.size) false := z11
    refine wpAny_setField_rec z11 (by simp) fun g12 z12 s12 => ?_
    replace z12 : IsZ g12 b (rawInt g9.objs.size) false := z12
    have up : ∀ c o, c ≠ b + 6 → g9.get? c = some o → g12.get? c = some o := fun c o c1 e => s12.extBut _ _ c1 (s11.extBut _ _ c1 (Heap.get?_push_of_some _ e))
    have hne : g9.objs.size ≠ b + 6 := by rw [hsz]; (simp only [Addr] at *; omega)
    have hT : Is4 g12 g9.objs.size x1 x2 x3 x4 := s12.extBut _ _ hne (s11.extBut _ _ hne (Heap.get?_push_size _ rfl))
    have h12 : g12.objs.size = g9.objs.size + 1 := by rw [s12.1, s11.1, Heap.size_push]
    rw [hsz] at z12 hT h12
    refine wpAny_pure ⟨_, rfl, ?_⟩
    show Q (.ref g9.objs.size) _
    rw [hsz]
    refine hQ g12 ⟨C.mv fun c o hc e => up c o (by (simp only [Addr] at *; omega)) e, .inr ⟨_, _, _, z12, hT, hbs⟩⟩ hT h12 fun c o hc e => ?_
    simp only [List.mem_cons, List.not_mem_nil, or_false, not_or] at hc
    exact up c o (by (simp only [Addr] at *; omega)) (hk c o (by (simp only [Addr] at *; omega)) (by (simp only [Addr] at *; omega)) (by (simp only [Addr] at *; omega)) (by (simp only [Addr] at *; omega)) (by (simp only [Addr] at *; omega)) (by (simp only [Addr] at *; omega)) e)
  · have hTs : T < s.heap.objs.size := Heap.lt_size hT
    show wpAny _ _ (field (.ref (b + 6)) 2 >>= _) _ _ _
    refine wpAny_bind (wpAny_field hz rfl (x := .bool false) rfl ?_)
    show wpAny _ _ (field (.ref (b + 6)) 3 >>= _) _ _ _
    refine wpAny_bind (wpAny_field hz rfl (x := .ref (b + 4)) rfl ?_)
    refine wpAny_bind (wpAny_seqItems C.ti rfl ?_)
    show wpAny _ _ (Builtin.SmallTypes.ownedTupleIsFree (.ref (b + 6)) >>= _) _ _ _
    refine wpAny_bind (wpAny_tupleHeld_zip hz hT fun g1 z1 s1 => ?_)
    replace z1 : IsZ g1 b (rawInt T) true := z1
    simp only [Bool.false_eq_true, if_false]
    have C := C.off d1 d2 d3 d4 (by (simp only [Addr] at *; omega)) s1
    refine wpAny_bind ?_
    rw [← Array.forIn_toList]
    simp only [List.forIn_cons, List.forIn_nil]
    refine wpAny_bind (wpAny_bind (wpAny_holding ?_))
    show wpAny _ _ (Builtin.SmallTypes.nextOf (.ref b) >>= _) _ _ _
    refine wpAny_bind (wpAny_nextOf_list_item (s := { s with heap := g1 }) C.i1 C.L1 h1 fun g2 e2 s2 => wpAny_pure ?_)
    have C := C.s1 d1 d2 d3 d4 s2 e2
    refine wpAny_pure ?_
    refine wpAny_bind (wpAny_bind (wpAny_holding ?_))
    show wpAny _ _ (Builtin.SmallTypes.nextOf (.ref (b + 1)) >>= _) _ _ _
    refine wpAny_bind (wpAny_nextOf_list_item (s := { s with heap := g2 }) C.i2 C.L2 h2 fun g3 e3 s3 => wpAny_pure ?_)
    have C := C.s2 d1 d2 d3 d4 s3 e3
    refine wpAny_pure ?_
    refine wpAny_bind (wpAny_bind (wpAny_holding ?_))
    show wpAny _ _ (Builtin.SmallTypes.nextOf (.ref (b + 2)) >>= _) _ _ _
    refine wpAny_bind (wpAny_nextOf_list_item (s := { s with heap := g3 }) C.i3 C.L3 h3 fun g4 e4 s4 => wpAny_pure ?_)
    have C := C.s3 d1 d2 d3 d4 s4 e4
    refine wpAny_pure ?_
    refine wpAny_bind (wpAny_bind (wpAny_holding ?_))
    show wpAny _ _ (Builtin.SmallTypes.nextOf (.ref (b + 3)) >>= _) _ _ _
    refine wpAny_bind (wpAny_nextOf_list_item (s := { s with heap := g4 }) C.i4 C.L4 h4 fun g5 e5 s5 => wpAny_pure ?_)
    have C := C.s4 d1 d2 d3 d4 s5 e5
    refine wpAny_pure (wpAny_pure ?_)
    show wpAny _ _ (newTuple [x1, x2, x3, x4] >>= _) _ _ _
    refine wpAny_bind (wpAny_newTuple ?_)
    have hsz : g5.objs.size = s.heap.objs.size := by rw [s5.1, s4.1, s3.1, s2.1, s1.1]
    have hk : ∀ c o, c ≠ b → c ≠ b + 1 → c ≠ b + 2 → c ≠ b + 3 → c ≠ b + 6 → s.heap.get? c = some o → g5.get? c = some o := fun c o c1 c2 c3 c4 c6 e =>
      s5.extBut _ _ c4 (s4.extBut _ _ c3 (s3.extBut _ _ c2 (s2.extBut _ _ c1 (s1.extBut _ _ c6 e))))
    have hz5 : IsZ g5 b (rawInt T) true := s5.extBut _ _ (by (simp only [Addr] at *; omega)) (s4.extBut _ _ (by (simp only [Addr] at *; omega)) (s3.extBut _ _ (by (simp only [Addr] at *; omega)) (s2.extBut _ _ (by (simp only [Addr] at *; omega)) z1)))
    refine wpAny_pure ⟨_, rfl, ?_⟩
    show Q (.ref g5.objs.size) _
    have hp : Is4 (g5.push { cls := .type "tuple", data := .seq #[x1, x2, x3, x4] }) g5.objs.size x1 x2 x3 x4 := Heap.get?_push_size _ rfl
    have hz6 : (g5.push { cls := .type "tuple", data := .seq #[x1, x2, x3, x4] }).objs.size = g5.objs.size + 1 := Heap.size_push ..
    rw [hsz] at hp hz6 ⊢
    refine hQ _ ⟨C.mv fun c o hc e => Heap.get?_push_of_some _ e, .inr ⟨T, true, o, Heap.get?_push_of_some _ hz5, Heap.get?_push_of_some _ (hk T o (by (simp only [Addr] at *; omega)) (by (simp only [Addr] at *; omega)) (by (simp only [Addr] at *; omega)) (by (simp only [Addr] at *; omega)) (by (simp only [Addr] at *; omega)) hT), hTb⟩⟩ hp hz6 fun c o hc e => ?_
    simp only [List.mem_cons, List.not_mem_nil, or_false, not_or] at hc
    exact Heap.get?_push_of_some _ (hk c o (by (simp only [Addr] at *; omega)) (by (simp only [Addr] at *; omega)) (by (simp only [Addr] at *; omega)) (by (simp only [Addr] at *; omega)) (by (simp only [Addr] at *; omega)) e)
theorem z4_end {Q : Fin → Shared → Prop} (hh : A.handled = none) (d1 : l1 < b) (d2 : l2 < b) (d3 : l3 < b) (d4 : l4 < b) (hz : Z4 b l1 l2 l3 l4 xs ys zs ws i s.heap) (h1 : xs[i]? = none)
    (hE : ∀ h' e, (∀ c o, c ∉ [b, b + 1, b + 2, b + 3, b + 4, b + 5, b + 6] → s.heap.get? c = some o → h'.get? c = some o) → (∃ o, h'.get? e = some o ∧ o.cls = .type "StopIteration") → E (.ref e) { s with heap := h' }) :
    wpAny (model prog w) A (Builtin.«zip.__next__» ⟨[.ref (b + 6)], []⟩) Q E s := by
  obtain ⟨C, hz⟩ := hz
  rcases hz with ⟨hz, hTO⟩ | ⟨T, f, o, hz, hT, hTb⟩
  · show wpAny _ _ (field (.ref (b + 6)) 2 >>= _) _ _ _
    refine wpAny_bind (wpAny_field hz rfl (x := .bool false) rfl ?_)
    show wpAny _ _ (field (.ref (b + 6)) 3 >>= _) _ _ _
    refine wpAny_bind (wpAny_field hz rfl (x := .ref (b + 4)) rfl ?_)
    refine wpAny_bind (wpAny_seqItems C.ti rfl ?_)
    show wpAny _ _ (Builtin.SmallTypes.ownedTupleIsFree (.ref (b + 6)) >>= _) _ _ _
    refine wpAny_bind ?_
    unfold Builtin.SmallTypes.ownedTupleIsFree
    refine wpAny_bind (wpAny_field hz rfl (x := .none) rfl (wpAny_pure ?_))
    simp only [if_true]
    refine wpAny_bind (wpAny_rule ?_)
    refine wpAny_bind (wpAny_field hz rfl (x := .ref (b + 5)) rfl ?_)
    refine wpAny_bind (wpAny_setField_rec hz (by simp) fun g1 z1 s1 => ?_)
    replace z1 : IsZ g1 b .ellipsis false := z1
    have C := C.off d1 d2 d3 d4 (by (simp only [Addr] at *; omega)) s1
    refine wpAny_bind ?_
    simp only [List.zipIdx_cons, List.zipIdx_nil, List.forIn_cons, List.forIn_nil]
    refine wpAny_bind (wpAny_bind (wpAny_onRaise ?_))
    show wpAny _ _ (Builtin.SmallTypes.nextOf (.ref b) >>= _) _ _ _
    refine wpAny_bind (wpAny_nextOf_list_end (s := { s with heap := g1 }) hh C.i1 C.L1 h1 fun g2 e s2 he => ?_)
    obtain ⟨oe, hoe, hce⟩ := he
    have z2 : IsZ g2 b .ellipsis false := s2 _ _ (by (simp only [Addr] at *; omega)) z1
    have hez : e ≠ b + 6 := fun x => by subst x; rw [z2] at hoe; cases hoe; simp at hce
    refine wpAny_setField_rec z2 (by simp) fun g3 _ s3 => hE g3 e (fun c o hc x => ?_) ⟨oe, s3.extBut _ _ hez hoe, hce⟩
    simp only [List.mem_cons, List.not_mem_nil, or_false, not_or] at hc
    exact s3.extBut _ _ (by (simp only [Addr] at *; omega)) (s2 _ _ (by (simp only [Addr] at *; omega)) (s1.extBut _ _ (by (simp only [Addr] at *; omega)) x))
  · show wpAny _ _ (field (.ref (b + 6)) 2 >>= _) _ _ _
    refine wpAny_bind (wpAny_field hz rfl (x := .bool false) rfl ?_)
    show wpAny _ _ (field (.ref (b + 6)) 3 >>= _) _ _ _
    refine wpAny_bind (wpAny_field hz rfl (x := .ref (b + 4)) rfl ?_)
    refine wpAny_bind (wpAny_seqItems C.ti rfl ?_)
    show wpAny _ _ (Builtin.SmallTypes.ownedTupleIsFree (.ref (b + 6)) >>= _) _ _ _
    refine wpAny_bind (wpAny_tupleHeld_zip hz hT fun g1 z1 s1 => ?_)
    replace z1 : IsZ g1 b (rawInt T) true := z1
    simp only [Bool.false_eq_true, if_false]
    have C := C.off d1 d2 d3 d4 (by (simp only [Addr] at *; omega)) s1
    refine wpAny_bind ?_
    rw [← Array.forIn_toList]
    simp only [List.forIn_cons, List.forIn_nil]
    refine wpAny_bind (wpAny_bind (wpAny_holding ?_))
    show wpAny _ _ (Builtin.SmallTypes.nextOf (.ref b) >>= _) _ _ _
    refine wpAny_bind (wpAny_nextOf_list_end (s := { s with heap := g1 }) hh C.i1 C.L1 h1 fun g2 e s2 he => hE g2 e (fun c o hc x => ?_) he)
    simp only [List.mem_cons, List.not_mem_nil, or_false, not_or] at hc
    exact s2 _ _ (by (simp only [Addr] at *; omega)) (s1.extBut _ _ (by (simp only [Addr] at *; omega)) x)
theorem next4_item {Q : Option Value → Shared → Prop} (hbs : b + 7 < s.heap.objs.size) (d1 : l1 < b) (d2 : l2 < b) (d3 : l3 < b) (d4 : l4 < b) (hz : Z4 b l1 l2 l3 l4 xs ys zs ws i s.heap)
    (h1 : xs[i]? = some x1) (h2 : ys[i]? = some x2) (h3 : zs[i]? = some x3) (h4 : ws[i]? = some x4)
    (hQ : ∀ h', Z4 b l1 l2 l3 l4 xs ys zs ws (i + 1) h' → Is4 h' s.heap.objs.size x1 x2 x3 x4 → h'.objs.size = s.heap.objs.size + 1 →
      (∀ c o, c ∉ [b, b + 1, b + 2, b + 3, b + 4, b + 5, b + 6] → s.heap.get? c = some o → h'.get? c = some o) → Q (some (.ref s.heap.objs.size)) { s with heap := h' }) :
    wpAny (model prog w) A (pyNext (.ref (b + 6))) Q E s := by
  have hT : s.TypeIs (.ref (b + 6)) "zip" := by
    rcases hz.2 with ⟨q, _⟩ | ⟨_, _, _, q, _⟩ <;> exact ⟨_, q, rfl⟩
  unfold pyNext
  exact wpAny_bind (wpAny_attempt (wpAny_callSpecial?_slot (name := Str.ofString "__next__") hT F.slot_zip_next
    (wpAny_call_entry F.slot_zip_next hT F.entry_zip_next
      (z4_item hbs d1 d2 d3 d4 hz h1 h2 h3 h4 fun h' a1 a2 a3 a4 => wpAny_pure (hQ h' a1 a2 a3 a4)) (F.args_zip_next_1 _))))
theorem next4_end {Q : Option Value → Shared → Prop} (hh : A.handled = none) (d1 : l1 < b) (d2 : l2 < b) (d3 : l3 < b) (d4 : l4 < b) (hz : Z4 b l1 l2 l3 l4 xs ys zs ws i s.heap) (h1 : xs[i]? = none)
    (hQ : ∀ h', (∀ c o, c ∉ [b, b + 1, b + 2, b + 3, b + 4, b + 5, b + 6] → s.heap.get? c = some o → h'.get? c = some o) → Q none { s with heap := h' }) : wpAny (model prog w) A (pyNext (.ref (b + 6))) Q E s := by
  have hT : s.TypeIs (.ref (b + 6)) "zip" := by
    rcases hz.2 with ⟨q, _⟩ | ⟨_, _, _, q, _⟩ <;> exact ⟨_, q, rfl⟩
  unfold pyNext
  refine wpAny_bind (wpAny_attempt (wpAny_callSpecial?_slot (name := Str.ofString "__next__") hT F.slot_zip_next
    (wpAny_call_entry F.slot_zip_next hT F.entry_zip_next (z4_end hh d1 d2 d3 d4 hz h1 fun h' e hk he => ?_) (F.args_zip_next_1 _))))
  obtain ⟨o, ho, hc⟩ := he
  refine wpAny_bind (wpAny_isInstance (T := "StopIteration") (b := true) ⟨o, ho, hc⟩ isSubtype_stop ?_)
  exact wpAny_pure (hQ _ hk)
end
end Den
namespace Den
open PySem PySem.Spec PyProof.Rows L2
theorem typeCall_zip_4 (a b c d : Value) : checkTypeCall "zip" ⟨[a, b, c, d], []⟩ = pure () := by kernel_rfl
theorem newCall_zip_4 (a b c d : Value) : checkBuiltinCall "zip.__new__" ⟨[.type "zip", a, b, c, d], []⟩ = pure () := by kernel_rfl
theorem args_init_5 (a b c d e : Value) : argsOk "object.__init__" ⟨[a, b, c, d, e], []⟩ := by
  unfold argsOk; rw [signature?_of (id := "object.__init__") (n := ['_', '_', 't', 'i', 'n', 'i', '_', '_']) (o := ['t', 'c', 'e', 'j', 'b', 'o']) (by kernel_rfl) PySem.F.owner_object]; kernel_rfl
abbrev qIt (h : Heap) (l : Addr) : Heap := h.push { cls := .type "list_iterator", data := .fields #[.ref l, .int 0 0] }
abbrev qH4 (h : Heap) (l1 l2 l3 l4 : Addr) : Heap := qIt (qIt (qIt (qIt h l1) l2) l3) l4
abbrev qH5 (h : Heap) (l1 l2 l3 l4 : Addr) : Heap := (qH4 h l1 l2 l3 l4).push { cls := .type "tuple", data := .seq #[.ref h.objs.size, .ref (qIt h l1).objs.size, .ref (qIt (qIt h l1) l2).objs.size, .ref (qIt (qIt (qIt h l1) l2) l3).objs.size] }
abbrev qH6 (h : Heap) (l1 l2 l3 l4 : Addr) : Heap := (qH5 h l1 l2 l3 l4).push { cls := .type "tuple", data := .seq #[.none, .none, .none, .none] }
abbrev qH7 (h : Heap) (l1 l2 l3 l4 : Addr) : Heap := (qH6 h l1 l2 l3 l4).push { cls := .type "zip", data := .fields #[.none, .bool false, .bool false, .ref (qH4 h l1 l2 l3 l4).objs.size, .ref (qH5 h l1 l2 l3 l4).objs.size] }
set_option maxHeartbeats 4000000 in
theorem meets_zip_4 (l1 l2 l3 l4 : Addr) (xs ys zs ws : Array Value) :
    Meets (Builtin.«zip.__new__» ⟨[.type "zip", .ref l1, .ref l2, .ref l3, .ref l4], []⟩) (fun _ R s => s.heap.IsList l1 xs ∧ s.heap.IsList l2 ys ∧ s.heap.IsList l3 zs ∧ s.heap.IsList l4 ws ∧
      R (.ok (.ret (.ref (qH6 s.heap l1 l2 l3 l4).objs.size))) { s with heap := qH7 s.heap l1 l2 l3 l4 }) :=
  .of_wp fun prog w A R s h => by
    obtain ⟨hp, g, d, tk, os⟩ := s; obtain ⟨h1, h2, h3, h4, h⟩ := h
    have hsub := sub_zip
    have hL1 : Heap.IsList (Shared.heap ⟨hp, g, d, tk, os⟩) l1 xs := h1
    have hL2 : Heap.IsList (Shared.heap ⟨qIt hp l1, g, d, tk, os⟩) l2 ys := Heap.IsList.push h2 _
    have hL3 : Heap.IsList (Shared.heap ⟨qIt (qIt hp l1) l2, g, d, tk, os⟩) l3 zs := Heap.IsList.push (Heap.IsList.push h3 _) _
    have hL4 : Heap.IsList (Shared.heap ⟨qIt (qIt (qIt hp l1) l2) l3, g, d, tk, os⟩) l4 ws := Heap.IsList.push (Heap.IsList.push (Heap.IsList.push h4 _) _) _
    wp_walk using wpAny_pyIter_list hL1, wpAny_pyIter_list hL2, wpAny_pyIter_list hL3, wpAny_pyIter_list hL4
    exact ⟨_, rfl, h⟩
section
variable {prog : Program} {w : World} {A : Around} {E : Value → Shared → Prop} {s : Shared}
theorem call_zip_4 {l1 l2 l3 l4 : Addr} {xs ys zs ws : Array Value} {Q : Value → Shared → Prop} (h1 : s.heap.IsList l1 xs) (h2 : s.heap.IsList l2 ys) (h3 : s.heap.IsList l3 zs) (h4 : s.heap.IsList l4 ws)
    (h : ∀ h', IsZ h' s.heap.objs.size .none false → Z4 s.heap.objs.size l1 l2 l3 l4 xs ys zs ws 0 h' → h'.objs.size = s.heap.objs.size + 7 → (∀ c o, s.heap.get? c = some o → h'.get? c = some o) → Q (.ref (s.heap.objs.size + 6)) { s with heap := h' }) :
    wpAny (model prog w) A (call (.type "zip") [.ref l1, .ref l2, .ref l3, .ref l4]) Q E s := by
  refine callType_new F.called_zip (by decide) (typeCall_zip_4 _ _ _ _) (newCall_zip_4 _ _ _ _) (fun obj => args_init_5 obj _ _ _ _) F.entry_zip_new
    (meets_zip_4 l1 l2 l3 l4 xs ys zs ws) ⟨h1, h2, h3, h4, ?_⟩
  have z1 : (qIt s.heap l1).objs.size = s.heap.objs.size + 1 := Heap.size_push ..
  have z2 : (qIt (qIt s.heap l1) l2).objs.size = s.heap.objs.size + 2 := by rw [Heap.size_push, z1]
  have z3 : (qIt (qIt (qIt s.heap l1) l2) l3).objs.size = s.heap.objs.size + 3 := by rw [Heap.size_push, z2]
  have z4 : (qH4 s.heap l1 l2 l3 l4).objs.size = s.heap.objs.size + 4 := by rw [Heap.size_push, z3]
  have z5 : (qH5 s.heap l1 l2 l3 l4).objs.size = s.heap.objs.size + 5 := by rw [Heap.size_push, z4]
  have z6 : (qH6 s.heap l1 l2 l3 l4).objs.size = s.heap.objs.size + 6 := by rw [Heap.size_push, z5]
  have z7 : (qH7 s.heap l1 l2 l3 l4).objs.size = s.heap.objs.size + 7 := by rw [Heap.size_push, z6]
  have p : ∀ (h : Heap) (a : Addr) (o o' : Obj), h.get? a = some o → (h.push o').get? a = some o := fun h a o o' e => Heap.get?_push_of_some _ e
  have g7 : (qH7 s.heap l1 l2 l3 l4).get? (qH6 s.heap l1 l2 l3 l4).objs.size = some _ := Heap.get?_push_size _ rfl
  have g6 : (qH7 s.heap l1 l2 l3 l4).get? (qH5 s.heap l1 l2 l3 l4).objs.size = some _ := p _ _ _ _ (Heap.get?_push_size _ rfl)
  have g5 : (qH7 s.heap l1 l2 l3 l4).get? (qH4 s.heap l1 l2 l3 l4).objs.size = some _ := p _ _ _ _ (p _ _ _ _ (Heap.get?_push_size _ rfl))
  have g4 : (qH7 s.heap l1 l2 l3 l4).get? (qIt (qIt (qIt s.heap l1) l2) l3).objs.size = some _ := p _ _ _ _ (p _ _ _ _ (p _ _ _ _ (Heap.get?_push_size _ rfl)))
  have g3 : (qH7 s.heap l1 l2 l3 l4).get? (qIt (qIt s.heap l1) l2).objs.size = some _ := p _ _ _ _ (p _ _ _ _ (p _ _ _ _ (p _ _ _ _ (Heap.get?_push_size _ rfl))))
  have g2 : (qH7 s.heap l1 l2 l3 l4).get? (qIt s.heap l1).objs.size = some _ := p _ _ _ _ (p _ _ _ _ (p _ _ _ _ (p _ _ _ _ (p _ _ _ _ (Heap.get?_push_size _ rfl)))))
  have g1 : (qH7 s.heap l1 l2 l3 l4).get? s.heap.objs.size = some _ := p _ _ _ _ (p _ _ _ _ (p _ _ _ _ (p _ _ _ _ (p _ _ _ _ (p _ _ _ _ (Heap.get?_push_size _ rfl))))))
  have k : ∀ c o, s.heap.get? c = some o → (qH7 s.heap l1 l2 l3 l4).get? c = some o := fun c o e => p _ _ _ _ (p _ _ _ _ (p _ _ _ _ (p _ _ _ _ (p _ _ _ _ (p _ _ _ _ (p _ _ _ _ e))))))
  show _ ∧ _
  rw [z4, z5, z6] at g7
  rw [z5] at g6
  rw [z1, z2, z3, z4] at g5
  rw [z3] at g4
  rw [z2] at g3
  rw [z1] at g2
  rw [z6]
  exact ⟨⟨_, g7, rfl⟩, h _ g7 ⟨⟨g5, ⟨_, g1, rfl, rfl⟩, ⟨_, g2, rfl, rfl⟩, ⟨_, g3, rfl, rfl⟩, ⟨_, g4, rfl, rfl⟩, h1.at (k _), h2.at (k _), h3.at (k _), h4.at (k _)⟩, .inl ⟨g7, g6⟩⟩ z7 k⟩
theorem list_of {T : String} {I : Addr} {Q : Value → Shared → Prop} (hT : s.TypeIs (.ref I) T) (n1 : (Value.type T == Value.type "list") = false) (n2 : (Value.type T == Value.type "tuple") = false)
    (iter : ∀ (h : Heap) (A' : Around) (R : Value → Shared → Prop) (E' : Value → Shared → Prop), (∀ b o, s.heap.get? b = some o → h.get? b = some o) → R (.ref I) { s with heap := h } → wpAny (model prog w) A' (pyIter (.ref I)) R E' { s with heap := h })
    (hint : ∀ (h : Heap) (A' : Around) (R : Bool → Shared → Prop) (E' : Value → Shared → Prop), (∀ b o, s.heap.get? b = some o → h.get? b = some o) → (∀ b, R b { s with heap := h }) → wpAny (model prog w) A' (Builtin.List.listLengthHint (.ref I)) R E' { s with heap := h })
    (loop : ∀ (h : Heap) (c : Nat), (∀ b o, s.heap.get? b = some o → h.get? b = some o) → h.objs.size = s.heap.objs.size + 1 → h.get? s.heap.objs.size = some { cls := .type "list", data := .seq #[] c } →
      codeAny (model prog w) A.in1 (.builtin "list.extend.loop" ⟨[.ref s.heap.objs.size, .ref I, .none], []⟩) (wants (fun r s₂ => r = .none ∧ Q (.ref s.heap.objs.size) s₂) E) { s with heap := h }) :
    wpAny (model prog w) A (call (.type "list") [.ref I]) Q E s := by
  obtain ⟨oi, hoi, hci⟩ := id hT
  have hSI : s.heap.objs.size ≠ I := Nat.ne_of_gt (Heap.lt_size hoi)
  refine callType_codes (Q₁ := fun obj s₁ => obj = .ref s.heap.objs.size ∧ s₁ = { s with heap := s.heap.push { cls := .type "list", data := .seq #[] } }) F.called_list (F.typeCall_list_1 _) F.entry_list_init
    (code_list_new _ ⟨rfl, rfl⟩) fun obj s₁ h₁ => ?_
  obtain ⟨rfl, rfl⟩ := h₁
  have hS : (s.heap.push { cls := .type "list", data := .seq #[] }).get? s.heap.objs.size = some { cls := .type "list", data := .seq #[] } := Heap.get?_push_size _ rfl
  refine ⟨⟨_, hS, rfl⟩, F.args_list_init_2 _ _, ?_⟩
  show wpAny _ A.in1.in1 (do let old ← Builtin.List.listItems (.ref s.heap.objs.size); Builtin.List.listUpdate (.ref s.heap.objs.size) (fun _ => #[]); letGo old.toList.reverse; Builtin.List.listExtendWith (.ref s.heap.objs.size) (.ref I) .none) _ _ _
  refine wpAny_bind ?_
  unfold Builtin.List.listItems
  refine wpAny_bind (wpAny_seqItems hS rfl (wpAny_pure ?_))
  show wpAny _ A.in1.in1 (updateSeq s.heap.objs.size (fun _ => #[]) >>= fun _ => letGo (#[] : Array Value).toList.reverse >>= fun _ => Builtin.List.listExtendWith (.ref s.heap.objs.size) (.ref I) .none) _ _ _
  refine wpAny_bind (wpAny_updateSeq hS rfl ?_)
  have hS2 := Heap.get?_update_self (Obj.mapSeq (fun _ => (#[] : Array Value))) hS rfl
  refine wpAny_bind (wpAny_letGo ?_)
  unfold Builtin.List.listExtendWith
  have up : ∀ (h : Heap) (f : Obj → Obj), (∀ b o, s.heap.get? b = some o → h.get? b = some o) → ∀ b o, s.heap.get? b = some o → (h.update s.heap.objs.size f).get? b = some o := fun h f q b o e =>
    (Heap.get?_update_other _ _ (Ne.symm (Nat.ne_of_lt (Heap.lt_size e)))).trans (q b o e)
  have k1 : ∀ b o, s.heap.get? b = some o → (s.heap.push { cls := .type "list", data := .seq #[] }).get? b = some o := fun b o e => Heap.get?_push_of_some _ e
  have k2 := up _ (Obj.mapSeq (fun _ => (#[] : Array Value))) k1
  refine wpAny_bind (wpAny_typeOf (T := T) ⟨oi, k2 _ _ hoi, hci⟩ ?_)
  have h1 : Builtin.List.listSameRef (.ref s.heap.objs.size) (.ref I) = false := by simp [Builtin.List.listSameRef, hSI]
  simp only [h1, n1, n2, Bool.or_false, Bool.false_eq_true, if_false]
  refine wpAny_bind (iter _ _ _ _ k2 ?_)
  refine wpAny_bind (wpAny_holding (hint _ _ _ _ k2 fun bb => ?_))
  have z1 : (s.heap.push { cls := .type "list", data := .seq #[] }).objs.size = s.heap.objs.size + 1 := Heap.size_push ..
  have zu : ∀ (h : Heap) (f : Obj → Obj), (h.update s.heap.objs.size f).objs.size = h.objs.size := fun h f => Heap.size_update ..
  refine wpAny_ite_split (fun _ => ?_) (fun _ => wpAny_pure ⟨plainId_quiet F.plain_extend_loop _, loop _ _ k2 (by rw [zu, z1]) hS2⟩)
  refine wpAny_bind (wpAny_rule ?_)
  refine wpAny_bind ?_
  show wpAny _ A.in1.in1 (updateSeq s.heap.objs.size (·.push .none) >>= fun _ => updateSeq s.heap.objs.size (·.pop)) _ _ _
  refine wpAny_bind (wpAny_updateSeq hS2 rfl ?_)
  have hS3 := Heap.get?_update_self (Obj.mapSeq (·.push Value.none)) hS2 rfl
  refine wpAny_updateSeq (hz := by seq_fits) hS3 rfl ?_
  have hS4 := Heap.get?_update_self (Obj.mapSeq (·.pop)) hS3 rfl
  have k4 := up _ (Obj.mapSeq (·.pop)) (up _ (Obj.mapSeq (·.push Value.none)) k2)
  exact wpAny_pure ⟨plainId_quiet F.plain_extend_loop _, loop _ _ k4 (by rw [zu, zu, zu, z1]) hS4⟩
theorem nolen_zip : typeLookup (.type "zip") "__len__" = pure none := by rw [typeLookup_type, builtinLookup_eq_fast]; kernel_rfl
theorem nohint_zip : typeLookup (.type "zip") "__length_hint__" = pure none := by rw [typeLookup_type, builtinLookup_eq_fast]; kernel_rfl
theorem hint_zip {I : Addr} {R : Bool → Shared → Prop} (hT : s.TypeIs (.ref I) "zip") (h : ∀ b, R b s) : wpAny (model prog w) A (Builtin.List.listLengthHint (.ref I)) R E s := by
  unfold Builtin.List.listLengthHint
  refine wpAny_bind (wpAny_specialOf hT nolen_zip ?_)
  show wpAny _ A (specialOf (Value.ref I) (Str.ofString "__length_hint__") >>= _) _ _ _
  refine wpAny_bind (wpAny_specialOf hT nohint_zip ?_)
  exact wpAny_pure (h _)
end
end Den
namespace Den
open PySem PySem.Spec PyProof.Rows L2
/-- what the walk gathers: P i acc H after i turns -/
def Gather (n S : Nat) (yld : Nat → HO → Prop) (Q : VK) (P : Nat → List V → Hp → Prop) : Prop :=
  (∀ i acc H' o, i < n → yld i o → P i acc H' → H' S = some (.lst acc) ∧ acc.length = i ∧ ∀ T, H' T = none → P (i + 1) (acc ++ [.ref T]) (upd (upd H' T o) S (.lst (acc ++ [.ref T])))) ∧ ∀ acc H', P n acc H' → Q (.ref S) H'
def y4 (xs ys zs ws : List V) (i : Nat) (o : HO) : Prop := ∃ x y z w, xs[i]? = some x ∧ ys[i]? = some y ∧ zs[i]? = some z ∧ ws[i]? = some w ∧ o = .tup [x, y, z, w]
def tLz4 (K : PySem.W.Frag) (ta : TA) : TE := fun σ H Q => ta σ H fun vs H1 => ∃ (a b c d : Addr) (xs ys zs ws : List V), vs = [.ref a, .ref b, .ref c, .ref d] ∧ SqL K H1 a xs ∧ SqL K H1 b ys ∧ SqL K H1 c zs ∧ SqL K H1 d ws ∧
  ys.length = xs.length ∧ zs.length = xs.length ∧ ws.length = xs.length ∧ ∀ S, H1 S = none → ∃ P, P 0 [] (upd H1 S (.lst [])) ∧ Gather xs.length S (y4 xs ys zs ws) Q P
theorem Z4.mv {b l1 l2 l3 l4 : Nat} {xs ys zs ws : Array Value} {i : Nat} {h h' : Heap} (C : Z4 b l1 l2 l3 l4 xs ys zs ws i h) (d1 : l1 < b) (d2 : l2 < b) (d3 : l3 < b) (d4 : l4 < b) (k : ∀ c o, c ≠ b + 7 → h.get? c = some o → h'.get? c = some o) : Z4 b l1 l2 l3 l4 xs ys zs ws i h' := by
  refine ⟨C.1.mv fun c o hc e => k c o (by (simp only [Addr] at *; omega)) e, ?_⟩
  rcases C.2 with ⟨q1, q2⟩ | ⟨T, f, o, q1, q2, q3⟩
  · exact .inl ⟨k _ _ (by (simp only [Addr] at *; omega)) q1, k _ _ (by (simp only [Addr] at *; omega)) q2⟩
  · exact .inr ⟨T, f, o, k _ _ (by (simp only [Addr] at *; omega)) q1, k _ _ (by (simp only [Addr] at *; omega)) q2, q3⟩
section
variable {X : Cx} {pins : List (Addr × Obj)} {σ : L2.St}
theorem lz_loop {A : Around} {Rs : Result → Shared → Prop} {b l1 l2 l3 l4 : Nat} {xs ys zs ws : List V} {i1 i2 i3 i4 : List Value} {Q : VK} {P : Nat → List V → Hp → Prop} (hh : A.handled = none) (d1 : l1 < b) (d2 : l2 < b) (d3 : l3 < b) (d4 : l4 < b)
    (v1 : Vals xs i1) (v2 : Vals ys i2) (v3 : Vals zs i3) (v4 : Vals ws i4) (e2 : ys.length = xs.length) (e3 : zs.length = xs.length) (e4 : ws.length = xs.length) (hz : xs.length ≤ sizeLine)
    (hg : Gather xs.length (b + 7) (y4 xs ys zs ws) Q P) (fin : ∀ s' H', Inv X pins σ H' s' → Q (.ref (b + 7)) H' → Rs (.ok (.ret .none)) s') :
    ∀ (k i : Nat) (acc : List V) (H : Hp) (s : Shared), xs.length - i = k → i ≤ xs.length → Inv X pins σ H s → P i acc H → H (b + 7) = some (.lst acc) → acc.length = i → Z4 b l1 l2 l3 l4 i1.toArray i2.toArray i3.toArray i4.toArray i s.heap →
      (∀ c ∈ [b, b + 1, b + 2, b + 3, b + 4, b + 5, b + 6], FpOk X pins H c) → codeAny (model X.prog X.w) A (.builtin "list.extend.loop" ⟨[.ref (b + 7), .ref (b + 6), .none], []⟩) Rs s := by
  intro k
  induction k with
  | zero =>
    intro i acc H s hk hi I hP hS ha hZ hf
    have ei : i = xs.length := by omega
    subst ei
    refine codeAny_builtin PySem.F.entry_extend_loop ?_
    rw [Around.under_plainId PySem.F.plain_extend_loop _]
    show wpAny _ A.in1 (pyNext (.ref (b + 6)) >>= _) _ _ s
    have hn : i1.toArray[xs.length]? = none := by simp [v1.length]
    refine wpAny_bind (next4_end hh d1 d2 d3 d4 hZ hn fun h' hk => ?_)
    have I1 : Inv X pins σ H { s with heap := h' } := I.turnedL (t' := s.toks) (ch := [b, b + 1, b + 2, b + 3, b + 4, b + 5, b + 6]) hk hf
    exact wpAny_pure (fin _ H I1 (hg.2 acc H hP))
  | succ k ih =>
    intro i acc H s hk hi I hP hS ha hZ hf
    have hlt : i < xs.length := by omega
    refine codeAny_builtin PySem.F.entry_extend_loop ?_
    rw [Around.under_plainId PySem.F.plain_extend_loop _]
    show wpAny _ A.in1 (pyNext (.ref (b + 6)) >>= _) _ _ s
    obtain ⟨u1, f1, r1⟩ := v1.get (List.getElem?_eq_getElem hlt)
    obtain ⟨u2, f2, r2⟩ := v2.get (List.getElem?_eq_getElem (show i < ys.length by omega))
    obtain ⟨u3, f3, r3⟩ := v3.get (List.getElem?_eq_getElem (show i < zs.length by omega))
    obtain ⟨u4, f4, r4⟩ := v4.get (List.getElem?_eq_getElem (show i < ws.length by omega))
    obtain ⟨z0, it0, c0, w0, le0, eS⟩ := I.lstM hS
    have hbs : b + 7 < s.heap.objs.size := Heap.lt_size eS
    refine wpAny_bind (next4_item hbs d1 d2 d3 d4 hZ (by simpa using f1) (by simpa using f2) (by simpa using f3) (by simpa using f4) fun h' hZ' hT hsz hk => ?_)
    have nT : H s.heap.objs.size = none := I.hok.fresh (Nat.le_refl _)
    have new : ObjOk X.prog X.w (upd H s.heap.objs.size (.tup [xs[i], ys[i], zs[i], ws[i]])) h' s.heap.objs.size (.tup [xs[i], ys[i], zs[i], ws[i]]) :=
      ⟨by show 4 ≤ sizeLine; decide, [u1, u2, u3, u4], .cons r1 (.cons r2 (.cons r3 (.cons r4 .nil))), ⟨_, hT, rfl, _, rfl⟩⟩
    have I1 : Inv X pins σ (upd H s.heap.objs.size (.tup [xs[i], ys[i], zs[i], ws[i]])) { s with heap := h' } := I.turnedNew (t' := s.toks) (ch := [b, b + 1, b + 2, b + 3, b + 4, b + 5, b + 6]) hk hf (Nat.le_refl _) new
    have hne : b + 7 ≠ s.heap.objs.size := Nat.ne_of_lt hbs
    have hS1 : upd H s.heap.objs.size (.tup [xs[i], ys[i], zs[i], ws[i]]) (b + 7) = some (.lst acc) := by rw [upd_ne hne]; exact hS
    obtain ⟨z1, it1, c1, w1, le1, eS1⟩ := I1.lstM hS1
    show wpAny _ A.in1 (updateSeq (b + 7) (·.push (.ref s.heap.objs.size)) >>= _) _ _ _
    have hl : it1.length < sizeLine := by omega
    refine wpAny_bind (wpAny_updateSeq eS1 rfl (wpAny_pure ⟨plainId_quiet PySem.F.plain_extend_loop _, ?_⟩) (by rw [List.size_toArray]; omega) (by show (it1.toArray.push _).size ≤ sizeLine + 1; rw [Array.size_push, List.size_toArray]; omega))
    obtain ⟨_, _, hPn⟩ := hg.1 i acc H _ hlt ⟨_, _, _, _, List.getElem?_eq_getElem hlt, List.getElem?_eq_getElem (show i < ys.length by omega), List.getElem?_eq_getElem (show i < zs.length by omega), List.getElem?_eq_getElem (show i < ws.length by omega), rfl⟩ hP
    have I2 := I1.lset (its' := it1 ++ [.ref s.heap.objs.size]) (f := (·.push (.ref s.heap.objs.size))) (ys := acc ++ [.ref s.heap.objs.size]) (t' := s.toks) hS1 eS1 (by simp) (w1.append (.cons (show L2.RelV (.ref s.heap.objs.size) (.ref s.heap.objs.size) from rfl) .nil)) (by rw [List.length_append, List.length_singleton]; omega)
    refine ih (i + 1) (acc ++ [.ref s.heap.objs.size]) _ _ (by omega) hlt I2 (hPn _ nT) upd_same (by rw [List.length_append, List.length_singleton]; omega) (hZ'.mv d1 d2 d3 d4 fun c o hc e => (Heap.get?_update_other _ _ (Ne.symm hc)).trans e) fun c hc => ?_
    obtain ⟨q0, q1⟩ := hf c hc
    simp only [List.mem_cons, List.not_mem_nil, or_false] at hc
    refine ⟨?_, q1⟩
    rw [upd_ne (show c ≠ b + 7 by (simp only [Addr] at *; omega)), upd_ne (show c ≠ s.heap.objs.size by (simp only [Addr] at *; omega))]
    exact q0
theorem boot_listZ : bootBuiltins "list" = some (.type "list") := by decide +kernel
theorem pe_lz4 {e1 e2 e3 e4 : Expr} {ta : TA} {p p2 q pos : Pos} (hc : X.calm = true) (hg : Gl X "list") (hm : X.mg "list" = none) (hg2 : Gl X "zip") (hm2 : X.mg "zip" = none) (ha : PA X [e1, e2, e3, e4] ta)
    (hs : starEach [e1, e2, e3, e4] X.env = (false, eval e1 X.env) :: starEach [e2, e3, e4] X.env) (hpl : (backTo q (starEach [e2, e3, e4] X.env)).any (·.1) = false) :
    PE X (.Call (.Name "list" p) [.Call (.Name "zip" p2) [e1, e2, e3, e4] [] q] [] pos) (tLz4 X.K ta) := by
  refine ⟨fun pins s σ H Q I h => ?_⟩
  have na : starEach [.Call (.Name "zip" p2) [e1, e2, e3, e4] [] q] X.env = (false, eval (.Call (.Name "zip" p2) [e1, e2, e3, e4] [] q) X.env) :: starEach [] X.env := rfl
  refine Call_ (ld_blt I hg hm boot_listZ (PyProof.Rows.callWith_type1 (PyProof.Rows.args_cons (Call_ (ld_blt I hg2 hm2 PyProof.Rows.boot_zip (PyProof.Rows.callWith_type1 (thn (ha.run q pins s σ H _ I h) fun us s1 ⟨vs, H1, I1, r1, q1⟩ => ?_) hs hpl))) na) na rfl))
  obtain ⟨a, b, c, d, xs, ys, zs, ws, rfl, k1, k2, k3, k4, l2, l3, l4, hq⟩ := q1
  cases r1 with
  | cons ra rr =>
    cases rr with
    | cons rb rr =>
      cases rr with
      | cons rc rr =>
        cases rr with
        | cons rd rr =>
          cases rr
          cases ra
          cases rb
          cases rc
          cases rd
          obtain ⟨i1, v1, p1, z1⟩ := I1.list k1
          obtain ⟨i2, v2, p2, z2⟩ := I1.list k2
          obtain ⟨i3, v3, p3, z3⟩ := I1.list k3
          obtain ⟨i4, v4, p4, z4⟩ := I1.list k4
          refine call_zip_4 p1.isList p2.isList p3.isList p4.isList fun h' hz0 hZ hsz hk => ?_
          refine PyProof.Rows.args_nil ?_
          have I2 : Inv X pins σ H1 { s1 with heap := h' } := I1.kept (t' := s1.toks) hk
          have hT : (Shared.mk h' s1.gens s1.drawn s1.toks s1.os).TypeIs (.ref (s1.heap.objs.size + 6)) "zip" := ⟨_, hz0, rfl⟩
          have hd := I1.ok.hd hc
          refine list_of (s := { s1 with heap := h' }) hT (by decide) (by decide) (fun g A' R E' kg hR => ?_) (fun g A' R E' kg hR => ?_) fun g c kg gs gS => ?_
          · exact wpAny_pyIter_zip (s := { s1 with heap := g }) (kg _ _ hz0) hR
          · exact hint_zip (s := { s1 with heap := g }) ⟨_, kg _ _ hz0, rfl⟩ hR
          have eS : h'.objs.size = s1.heap.objs.size + 7 := hsz
          have gS : g.get? (s1.heap.objs.size + 7) = some { cls := .type "list", data := .seq ([] : List Value).toArray c } := by rw [← eS]; exact gS
          have nS : H1 (s1.heap.objs.size + 7) = none := I1.hok.fresh (Nat.le_add_right _ _)
          obtain ⟨P, hP, hG⟩ := hq _ nS
          have I3 : Inv X pins σ (upd H1 (s1.heap.objs.size + 7) (.lst [])) { s1 with heap := g } := I2.laid (t' := s1.toks) kg (by show h'.objs.size ≤ _; rw [eS]; exact Nat.le_refl _) ⟨Nat.zero_le _, [], c, .nil, gS⟩
          show codeAny _ _ (.builtin "list.extend.loop" ⟨[.ref h'.objs.size, .ref (s1.heap.objs.size + 6), .none], []⟩) _ _
          rw [eS]
          refine lz_loop (X := X) (pins := pins) (σ := σ) (Q := Q) (show X.A.in1.handled = none from hd) p1.lt p2.lt p3.lt p4.lt v1 v2 v3 v4 l2 l3 l4 z1 hG (fun s' H' I' q => ⟨rfl, .ref (s1.heap.objs.size + 7), H', I', (show L2.RelV (.ref (s1.heap.objs.size + 7)) (.ref (s1.heap.objs.size + 7)) from rfl), q⟩) _ 0 [] _ _ rfl (Nat.zero_le _) I3 hP upd_same rfl
            (hZ.mv p1.lt p2.lt p3.lt p4.lt fun c o hc e => kg c o e) fun c hc => ?_
          have e' : s1.heap.objs.size ≤ c ∧ c ≠ s1.heap.objs.size + 7 := by
            simp only [List.mem_cons, List.not_mem_nil, or_false] at hc
            constructor <;> (simp only [Addr] at *; omega)
          exact I1.fpOk e'.1 (by rw [upd_ne e'.2]; exact I1.hok.fresh e'.1)
end
end Den
namespace Den
open PySem PySem.Spec PyProof.Rows L2
section
variable {P : Program} {w : World} {A : Around} {E : Value → Shared → Prop} {s : Shared}
abbrev setNew (w : World) : Obj := { cls := .type "set", dict := none, data := .set #[] 0 (.fresh 0 0 (!w.params.followText "set-order")) }
set_option maxHeartbeats 3200000 in
theorem call_set_lstI {l : Addr} {items : Array Value} (ns : List Int) {Q : Value → Shared → Prop} (hh : A.handled = none) (hl : s.heap.IsList l items) (hit : IntsAre items.toList ns) (hb : ns.length + 1 < scanBound)
    (h : ∀ (h' : Heap) (tk c : Nat), SetR w h' s.heap.objs.size (fun j => decide (j ∈ ns)) c → c ≤ ns.length → (∀ b o, s.heap.get? b = some o → h'.get? b = some o) → Q (.ref s.heap.objs.size) { s with heap := h', toks := tk }) :
    wpAny (model P w) A (call (.type "set") [.ref l]) Q E s := by
  have sz : items.size = ns.length := by rw [← Array.length_toList]; exact IntsAre.length hit
  obtain ⟨c, tl, hmro⟩ := PySem.F.called_set.mro
  have m1 := PySem.F.called_set.made
  have m2 := PySem.F.called_set.sub
  have m3 := PySem.F.called_set.notType
  have m4 := PySem.F.called_set.canCreate
  have m5 := PySem.F.typeCall_set_1 (.ref l)
  refine wpAny_call (codeAny_of_tree ?_)
  show wpAny _ _ (callAny (.type "set") _) _ _ _
  refine wpAny_pure ⟨Code.quiet_builtin _ (by decide +kernel), codeAny_builtin PySem.F.entry_type_call ?_⟩
  rw [Around.under_plain (weight_type_call_type "set" [.ref l] []) rfl]
  repeat (any_goals (first | assumption | wp_step))
  have new : codeAny (model P w) A.in1 (.call (.builtin "set.__new__") ⟨[.type "set", .ref l], []⟩) (wants (fun obj s₁ => obj = .ref s.heap.objs.size ∧ s₁ = { s with heap := s.heap.push (setNew w) }) E) s :=
    code_set_led1 (.ref l) ⟨rfl, rfl⟩
  refine codeAny_mono new fun r s₁ hr => ?_
  cases r with
  | error e => exact hr
  | ok fl =>
   cases fl with
   | next => exact hr.elim
   | brk => exact hr.elim
   | cont => exact hr.elim
   | ret obj =>
    obtain ⟨rfl, rfl⟩ := hr
    have hS : (s.heap.push (setNew w)).get? s.heap.objs.size = some (setNew w) := Heap.get?_push_size _ rfl
    have hT : Shared.TypeIs { s with heap := s.heap.push (setNew w) } (.ref s.heap.objs.size) "set" := ⟨_, hS, rfl⟩
    have hli := PySem.F.called_set.init.lookup
    have hbi := PySem.F.called_set.init.bind (.ref s.heap.objs.size)
    repeat (any_goals (first | assumption | wp_step))
    refine codeAny_mono (codeAny_call_builtin (R := wants (fun r s₂ => r = .none ∧ ∃ h' tk c, s₂ = { s with heap := h', toks := tk } ∧ SetR w h' s.heap.objs.size (fun j => decide (j ∈ ns)) c ∧ c ≤ ns.length ∧
        (∀ b o, s.heap.get? b = some o → h'.get? b = some o)) E) PySem.F.called_set.init.plain PySem.F.entry_set_init (check_set_init_1 hT ?_)) fun r₂ s₂ hr₂ => ?_
    · obtain ⟨⟨ocls, odict, odata, oslots⟩, hol, hcl, nl, hdl⟩ := id hl
      simp only at hcl hdl
      subst hcl hdl
      have u1 := PySem.F.sub_list_set
      have u2 := PySem.F.sub_list_frozenset
      have u3 : (Value.type "list" == Value.type "dict") = false := by decide
      have hol' : (s.heap.push (setNew w)).get? l = some { cls := .type "list", dict := odict, data := .seq items nl, slots := oslots } := Heap.get?_push_of_some _ hol
      have hl1 : (s.heap.push (setNew w)).IsList l items := ⟨_, hol', rfl, nl, rfl⟩
      unfold Builtin.«set.__init__» noKeywords Builtin.Frozenset.updateFrom
      generalize hPI : pyIter = PI
      wp_walk
      subst hPI
      refine wpAny_pyIter_list hl1 (wpAny_bind (wpAny_runValue ?_))
      have lt : l < s.heap.objs.size := Heap.lt_size hol
      have z1 : (s.heap.push (setNew w)).objs.size = s.heap.objs.size + 1 := Heap.size_push ..
      have neI : l ≠ (s.heap.push (setNew w)).objs.size := by rw [z1]; (simp only [Addr] at *; omega)
      have nf : s.heap.objs.size ∉ [(s.heap.push (setNew w)).objs.size, l] := by
        rw [z1]; simp only [List.mem_cons, List.not_mem_nil, or_false, not_or]; constructor <;> (simp only [Addr] at *; omega)
      have val : ∀ (i : Nat) (v : Value), items[i]? = some v → ∃ k t, ns[i]? = some k ∧ v = .int k t := fun i v hv => by
        have hi : i < ns.length := by rw [← sz]; exact (Array.getElem?_eq_some_iff.mp hv).1
        obtain ⟨t, e⟩ := PyProof.Rows.IntsAre.int_at hit i v (by rw [Array.getElem?_toList]; exact hv)
        refine ⟨ns[i], t, List.getElem?_eq_getElem hi, ?_⟩
        rw [e, List.getD_eq_getElem?_getD, List.getElem?_eq_getElem hi] <;> rfl
      refine set_update_ints ((Walks.list (show A.in1.in1.in1.handled = none by simp [hh]) _ l neI items).toS) s.heap.objs.size nf ns sz hb val (items.size - 0) 0 _ (by omega) (Nat.zero_le _)
        ⟨⟨_, Heap.get?_push_size _ rfl, rfl, rfl⟩, (hl1.push _)⟩ ⟨0, Nat.le_refl 0, setR_new_at (Heap.get?_push_of_some _ hS)⟩ fun s' c' hm hc' hS' => ?_
      obtain ⟨h', g2, d', tk', os'⟩ := s'
      have eg : g2 = s.gens := hm.gens
      have ed : d' = s.drawn := hm.drawn
      have eo : os' = s.os := hm.os
      subst eg ed eo
      refine wpAny_pure ?_
      show wpAny _ _ (ret Value.none) _ _ _
      rw [sz] at hc'
      refine wpAny_pure ⟨rfl, h', tk', c', rfl, hS', hc', fun b o e => ?_⟩
      have hb0 : b < s.heap.objs.size := Heap.lt_size e
      exact hm.heap b o (by rw [z1]; simp only [List.mem_cons, List.not_mem_nil, or_false, not_or]; constructor <;> (simp only [Addr] at *; omega)) (Heap.get?_push_of_some _ (Heap.get?_push_of_some _ e))
    · cases r₂ with
      | error e => exact hr₂
      | ok fl₂ =>
        cases fl₂ with
        | ret r =>
          obtain ⟨rfl, h', tk, c', rfl, hS', hc', hk'⟩ := hr₂
          repeat (any_goals (first | assumption | wp_step))
          exact h _ _ _ hS' hc' hk'
        | _ => exact hr₂.elim
/-- sorted(a set of ints), of any length below the line -/
theorem sorted_setA {a : Addr} {S : Int → Bool} {n : Nat} {Q : Value → Shared → Prop} (R : SetR w s.heap a S n) (hh : A.handled = none)
    (hQ : ∀ s' p (out : List Value) (c : Nat) (ns : List Int), (∀ b o, s.heap.get? b = some o → s'.heap.get? b = some o) → s'.gens = s.gens → s'.os = s.os → s.heap.objs.size ≤ p →
      s'.heap.get? p = some (seqObj "list" out.toArray c) → IntsAre out ns → ns.Pairwise (· < ·) → (∀ k, k ∈ ns ↔ S k = true) → ns.length < scanBound → Q (.ref p) s') :
    wpAny (model P w) A (call (.builtin "sorted") [.ref a]) Q E s := by
  obtain ⟨o, es, ep, t, ho, hex, hd, g, nd, hm, hb, hf, hn, hr, hl⟩ := R
  refine Calls.call_function_entry kind_sorted plain_sorted entry_sorted (args_sorted1 _) ?_
  unfold Builtin.«sorted»
  refine wpAny_bind (m := checkCount "sorted" 1 1 _) (wpAny_pure ?_)
  refine wpAny_bind (collect_set (A := A.in1) hh ⟨o, ho, hex.1, hd⟩ hf hb hr hl fun s1 vs k1 hz g1 o1 pm => ?_)
  have hI : IntsAre vs (vs.map Builtin.Re.reRawOf) := ints_of vs fun v hv => by
    obtain ⟨e, he, q⟩ := List.mem_map.mp (pm.mem_iff.mp hv)
    obtain ⟨k, tk, h1, _⟩ := g e he
    exact ⟨k, tk, by rw [← q]; exact h1⟩
  have pk : (vs.map Builtin.Re.reRawOf).Perm (es.toList.map keyOf) := by
    have q := pm.map Builtin.Re.reRawOf
    rw [List.map_map] at q
    exact q
  have hlen : vs.length ≤ sizeLine := by
    rw [pm.length_eq, List.length_map, Array.length_toList]
    exact fits_of_scanBound hb
  refine wpAny_bind (wpAny_newList ?_ hlen)
  have hoL : (s1.heap.push (seqObj "list" vs.toArray 0)).get? s1.heap.objs.size = some (seqObj "list" vs.toArray 0) := Heap.get?_push_size _ rfl
  refine wpAny_bind (wpAny_holding (wpAny_call_entry slot_list_sort ⟨_, hoL, rfl⟩ entry_list_sort (SrtO.list_sort_ord SrtO.swo_int hoL hlen (fun h2 => SrtO.ints_sortable hI h2) fun out h1 h2 => ⟨_, rfl, ?_⟩) (args_list_sort _)))
  obtain ⟨c, hc⟩ := sortedHeap_at (vs := vs) (out := out.toArray) hoL
  obtain ⟨q1, q2, q3⟩ := SrtO.ints_out hI h1 h2
  have pn : (out.map SrtO.iv).Perm (es.toList.map keyOf) := q2.trans pk
  refine wpAny_pure ⟨_, rfl, hQ _ s1.heap.objs.size out c (out.map SrtO.iv) (fun b u e => ?_) g1 o1 hz hc q1 (lt_of_le_nodup _ q3 (pn.nodup_iff.mpr nd)) (fun k => by rw [pn.mem_iff, ← hm k]) ?_⟩
  · have q := k1 b u e
    have hlt := Heap.lt_size q
    show (sortedHeap (s1.heap.push (seqObj "list" vs.toArray 0)) s1.heap.objs.size vs out.toArray).get? b = some u
    rw [sortedHeap_old (Nat.ne_of_lt hlt) (by rw [size_push']; exact Nat.lt_succ_of_lt hlt)]
    exact Heap.get?_push_of_some _ q
  · rw [pn.length_eq, List.length_map, Array.length_toList]; exact hb
end
section
variable {X : Cx}
theorem boot_setY : bootBuiltins "set" = some (.type "set") := by decide +kernel
theorem boot_sortedY : bootBuiltins "sorted" = some (.builtin "sorted") := by decide +kernel
/-- sorted(set(xs)) -/
def tSset (K : PySem.W.Frag) (ta : TE) : TE := fun σ H Q => ta σ H fun x H1 => ∃ (a : Addr) (ns : List Int), x = .ref a ∧ SqL K H1 a (ns.map V.int) ∧ ns.length + 1 < scanBound ∧
  ∀ (ks : List Int) (p : Addr), ks.Pairwise (· < ·) → (∀ k, k ∈ ks ↔ k ∈ ns) → H1 p = none → Q (.ref p) (upd H1 p (.lst (ks.map V.int)))
theorem pe_sset {e : Expr} {ta : TE} {p p2 q pos : Pos} (hc : X.calm = true) (hg : Gl X "sorted") (hm : X.mg "sorted" = none) (hg2 : Gl X "set") (hm2 : X.mg "set" = none) (ha : PE X e ta)
    (na : starEach [e] X.env = (false, eval e X.env) :: starEach [] X.env) : PE X (.Call (.Name "sorted" p) [.Call (.Name "set" p2) [e] [] q] [] pos) (tSset X.K ta) := by
  refine ⟨fun pins s σ H Q I h => ?_⟩
  refine Call_ (ld_blt I hg hm boot_sortedY ?_)
  refine PyProof.Rows.callWith_builtin1 (PyProof.Rows.args_cons ?_ rfl) rfl rfl
  refine Call_ (ld_blt I hg2 hm2 boot_setY ?_)
  refine PyProof.Rows.callWith_type1 (PyProof.Rows.args_cons (thn (ha.run pins s σ H _ I h) fun v s1 ⟨x, H1, I1, r1, q1⟩ => PyProof.Rows.args_nil ?_) na) na rfl
  obtain ⟨a, ns, rfl, hs, hb, hq⟩ := q1
  cases r1
  obtain ⟨its, rv, pl, hz⟩ := I1.list hs
  refine call_set_lstI ns (I1.ok.hd hc) pl.isList (by simpa using rv.ints) hb fun h' tk c R hcn hk => ?_
  refine PyProof.Rows.args_nil ?_
  have I2 : Inv X pins σ H1 { s1 with heap := h', toks := tk } := I1.kept hk
  refine sorted_setA (s := { s1 with heap := h', toks := tk }) R (I1.ok.hd hc) fun s' p out c2 ks k g o hp hgt hi hs' hm' hl => ?_
  have hn : H1 p = none := I2.hok.fresh hp
  have hlen : (ks.map V.int).length ≤ sizeLine := by rw [List.length_map, sizeLine_eq]; unfold scanBound at hl; omega
  have J : Inv X pins σ (upd H1 p (.lst (ks.map V.int))) { ({ s1 with heap := h', toks := tk } : Shared) with heap := s'.heap, gens := s'.gens, drawn := s'.drawn, toks := s'.toks } :=
    I2.call (ch := []) (Un.laid k hp hn) (I2.hok.laid k hp ⟨hlen, out, c2, vals_of_ints hi, hgt⟩) (by rw [g]; exact I2.bare) (fun _ z => nomatch z)
  have e : s' = { ({ s1 with heap := h', toks := tk } : Shared) with heap := s'.heap, gens := s'.gens, drawn := s'.drawn, toks := s'.toks } := by
    cases s'
    cases s1
    cases o
    rfl
  rw [e]
  exact ⟨.ref p, _, J, rfl, hq ks p hs' (fun j => by rw [hm']; simp) hn⟩
end
end Den
namespace Den
open PySem PySem.Spec PyProof.Rows L2
section
variable {P : Program} {w : World} {A : Around} {E : Value → Shared → Prop} {s : Shared}
theorem hint_rev {it l : Addr} {i : Int} {R : Bool → Shared → Prop} (hit : s.heap.IsRevIter it l i) (h : ∀ b, R b s) : wpAny (model P w) A (Builtin.List.listLengthHint (.ref it)) R E s := by
  have hT := hit.typeIs
  unfold Builtin.List.listLengthHint
  refine wpAny_bind (wpAny_specialOf hT RT.nolen_lri ?_)
  show wpAny _ A (specialOf (Value.ref it) (Str.ofString "__length_hint__") >>= _) _ _ _
  refine wpAny_bind (wpAny_specialOf hT RT.hint_lri ?_)
  generalize hid : ("list_reverseiterator.__length_hint__" : String) = id0
  wp_delta
  rw [show splitId id0 = some ("list_reverseiterator", "__length_hint__") from by subst hid; decide +kernel]
  subst hid
  refine wpAny_bind (wpAny_isInstance (b := true) hT (by rw [isSubtype_type]; kernel_rfl) ?_)
  exact wpAny_pure (h _)
end
section
variable {X : Cx}
def tLrev (K : PySem.W.Frag) (te : TE) : TE := fun σ H Q => te σ H fun v H1 => ∃ (a : Addr) (xs : List V), v = .ref a ∧ SqL K H1 a xs ∧ ∀ q, H1 q = none → Q (.ref q) (upd H1 q (.lst xs.reverse))
theorem pe_lrev {e : Expr} {te : TE} {p p2 pos pos2 : Pos} (hc : X.calm = true) (hg : Gl X "list") (hm : X.mg "list" = none) (hg2 : Gl X "reversed") (hm2 : X.mg "reversed" = none) (he : PE X e te)
    (hs : starEach [e] X.env = (false, eval e X.env) :: starEach [] X.env) : PE X (.Call (.Name "list" p) [.Call (.Name "reversed" p2) [e] [] pos2] [] pos) (tLrev X.K te) := by
  refine ⟨fun pins s σ H Q I h => ?_⟩
  have hs2 : starEach [.Call (.Name "reversed" p2) [e] [] pos2] X.env = (false, eval (.Call (.Name "reversed" p2) [e] [] pos2) X.env) :: starEach [] X.env := rfl
  refine Call_ (ld_blt I hg hm boot_listZ (PyProof.Rows.callWith_type1 (PyProof.Rows.args_cons (Call_ (ld_blt I hg2 hm2 PyProof.Rows.boot_reversed (PyProof.Rows.callWith_type1 (PyProof.Rows.args_cons (thn (he.run pins s σ H _ I h) fun u s1 ⟨v, H1, I1, r1, q1⟩ => PyProof.Rows.args_nil ?_) hs) hs rfl))) hs2) hs2 rfl))
  obtain ⟨a, xs, ev, hq, q⟩ := q1
  subst ev
  obtain rfl : u = Value.ref a := r1
  obtain ⟨its, rv, p', hz⟩ := I1.list hq
  refine call_reversed_list p'.isList (PyProof.Rows.args_nil ?_)
  have k0 : ∀ b o, s1.heap.get? b = some o → (s1.heap.push (revObj a ((its.toArray.size : Int) - 1))).get? b = some o := fun b o e => Heap.get?_push_of_some _ e
  have I2 : Inv X pins σ H1 { s1 with heap := s1.heap.push (revObj a ((its.toArray.size : Int) - 1)) } := I1.kept (t' := s1.toks) k0
  obtain ⟨f0, f1, f2, f3, f4, f5⟩ := I1.fpOk (H' := H1) (b := s1.heap.objs.size) (Nat.le_refl _) (I1.hok.fresh (Nat.le_refl _))
  have hl := p'.isList
  obtain ⟨ol, hol, _⟩ := id hl
  have hne : a ≠ s1.heap.objs.size := Nat.ne_of_lt (Heap.lt_size hol)
  have hn : its.toArray.size ≤ sizeLine := by rw [List.size_toArray, ← rv.length]; exact hz
  have hit : (s1.heap.push (revObj a ((its.toArray.size : Int) - 1))).IsRevIter s1.heap.objs.size a ((its.toArray.size : Int) - 1) := ⟨_, Heap.get?_push_size _ rfl, rfl, rfl⟩
  have hd := I1.ok.hd hc
  have z1 : (s1.heap.push (revObj a ((its.toArray.size : Int) - 1))).objs.size = s1.heap.objs.size + 1 := Heap.size_push ..
  refine list_of (T := "list_reverseiterator") (s := { s1 with heap := s1.heap.push (revObj a ((its.toArray.size : Int) - 1)) }) ⟨_, Heap.get?_push_size _ rfl, rfl⟩ (by decide) (by decide) (fun g A' R E' kg hR => wpAny_pyIter_revIter (s := { s1 with heap := g }) (hit.at fun o e => kg _ o e) hR)
    (fun g A' R E' kg hR => hint_rev (s := { s1 with heap := g }) (hit.at fun o e => kg _ o e) hR) fun g c kg gs gS => ?_
  have e0 : ((its.toArray.size : Nat) : Int) - 1 - ((0 : Nat) : Int) = (its.toArray.size : Int) - 1 := by omega
  have hlt : a < s1.heap.objs.size := Heap.lt_size hol
  have hSf : (s1.heap.push (revObj a ((its.toArray.size : Int) - 1))).objs.size ∉ [s1.heap.objs.size, a] := by
    rw [z1]; simp only [List.mem_cons, List.not_mem_nil, or_false, not_or]; constructor <;> (simp only [Addr] at *; omega)
  refine codeAny_extend_loopS (Walks.listRev (prog := X.prog) (w := X.w) (A := X.A.in1.in1) hd s1.heap.objs.size a hne its.toArray).toS hn _ hSf .none its.toArray.size 0 _ #[] c rfl (Nat.zero_le _)
    ⟨Nat.zero_le _, by rw [e0]; exact hit.at fun o e => kg _ o e, (hl.push _).at fun o e => kg _ o e⟩ gS (ItemsOf.nil _) fun s' acc' c' hm hS' hacc => ?_
  have em := Moved.eq_with hm
  have kk : ∀ b o, b ≠ s1.heap.objs.size → (s1.heap.push (revObj a ((its.toArray.size : Int) - 1))).get? b = some o → s'.heap.get? b = some o := fun b o hb e => hm.heap b o (fun hmem => by
    rcases List.mem_cons.mp hmem with e' | hmem
    · exact absurd (Heap.lt_size e) (by rw [e']; exact Nat.lt_irrefl _)
    · exact hb (List.mem_singleton.mp hmem)) (kg b o e)
  have J := I2.turnedNew (h' := s'.heap) (t' := s'.toks) (ch := [s1.heap.objs.size]) (T := (s1.heap.push (revObj a ((its.toArray.size : Int) - 1))).objs.size) (ob := .lst xs.reverse) (fun b o hb e => kk b o (by simpa using hb) e) (fun b hb => by
      have eb : b = s1.heap.objs.size := by simpa using hb
      subst eb
      exact I1.fpOk (Nat.le_refl _) (I1.hok.fresh (Nat.le_refl _))) (Nat.le_refl _) (show ObjOk X.prog X.w _ _ _ (.lst xs.reverse) from ⟨by rw [List.length_reverse]; exact hz, acc'.toList, c', RT.vals_rev rv hacc, by rw [Array.toArray_toList]; exact hS'⟩)
  rw [em]
  exact ⟨rfl, .ref _, _, J, (show L2.RelV (.ref _) (.ref _) from rfl), q _ (I1.hok.fresh (by rw [z1]; exact Nat.le_succ _))⟩
end
section
variable {T : Tbl} {fn : Nat → List D → R D} {W : WX} {cls : Nat → Value} {d : Bool} {sc : Scope} {X : Cx}
theorem insU_mem (i k : Int) : ∀ l : List Int, k ∈ insU i l ↔ k = i ∨ k ∈ l
  | [] => by simp [insU]
  | j :: r => by
    rw [insU]
    split
    · simp
    · split
      · rename_i h; subst h; simp
      · rw [List.mem_cons, insU_mem i k r, List.mem_cons]
        constructor
        · rintro (h | h | h)
          · exact .inr (.inl h)
          · exact .inl h
          · exact .inr (.inr h)
        · rintro (h | h | h)
          · exact .inr (.inl h)
          · exact .inl h
          · exact .inr (.inr h)
theorem sortU_mem (k : Int) : ∀ l : List Int, k ∈ sortU l ↔ k ∈ l
  | [] => by simp [sortU]
  | i :: r => by rw [sortU, insU_mem, sortU_mem k r, List.mem_cons]
theorem insU_srt (i : Int) : ∀ l : List Int, l.Pairwise (· < ·) → (insU i l).Pairwise (· < ·)
  | [], _ => List.pairwise_singleton _ _
  | j :: r, h => by
    rw [List.pairwise_cons] at h
    rw [insU]
    split
    · rename_i hij
      refine List.pairwise_cons.mpr ⟨fun x hx => ?_, List.pairwise_cons.mpr h⟩
      rcases List.mem_cons.mp hx with e | hx
      · rw [e]; exact hij
      · exact Int.lt_trans hij (h.1 x hx)
    · split
      · exact List.pairwise_cons.mpr h
      · rename_i h1 h2
        refine List.pairwise_cons.mpr ⟨fun x hx => ?_, insU_srt i r h.2⟩
        rcases (insU_mem i x r).mp hx with e | hx
        · omega
        · exact h.1 x hx
theorem sortU_srt : ∀ l : List Int, (sortU l).Pairwise (· < ·)
  | [] => .nil
  | i :: r => insU_srt i _ (sortU_srt r)
theorem rising_uniq : ∀ {l m : List Int}, l.Pairwise (· < ·) → m.Pairwise (· < ·) → (∀ k, k ∈ l ↔ k ∈ m) → l = m
  | [], [], _, _, _ => rfl
  | [], y :: m, _, _, h => by have := (h y).mpr (by simp); simp at this
  | x :: l, [], _, _, h => by have := (h x).mp (by simp); simp at this
  | x :: l, y :: m, hl, hm, h => by
    rw [List.pairwise_cons] at hl hm
    have e : x = y := by
      have h1 := (h x).mp (by simp)
      have h2 := (h y).mpr (by simp)
      rcases List.mem_cons.mp h1 with e | h1
      · exact e
      · rcases List.mem_cons.mp h2 with e | h2
        · exact e.symm
        · have a := hl.1 y h2
          have b := hm.1 x h1
          omega
    subst e
    rw [rising_uniq hl.2 hm.2 fun k => ⟨fun hk => ?_, fun hk => ?_⟩]
    · have a := hl.1 k hk
      rcases List.mem_cons.mp ((h k).mp (List.mem_cons_of_mem _ hk)) with e | q
      · omega
      · exact q
    · have a := hm.1 k hk
      rcases List.mem_cons.mp ((h k).mpr (List.mem_cons_of_mem _ hk)) with e | q
      · omega
      · exact q
theorem snd_lrev (C : Ctx T fn W cls d sc X) {a : Ex} {l : Expr} {p p2 q pos : Pos} (h1 : blt T sc "list" = true) (h2 : blt T sc "reversed" = true) (ha : Snd T fn W cls X a l) (hl : plE l = true) :
    Snd T fn W cls X (.lrev a) (.Call (.Name "list" p) [.Call (.Name "reversed" p2) [l] [] q] [] pos) := by
  obtain ⟨g1, g2, g3, g4⟩ := blt_ok C h1
  obtain ⟨k1, k2, k3, k4⟩ := blt_ok C h2
  refine .of (pe_imp (pe_lrev C.calm g1 g2 k1 k2 ha.pe (plE_star hl)) fun σ H Q h => ?_) (fun _ => rfl) rfl
  obtain ⟨G, ρ, F, h⟩ := h
  have h : Want W cls X.K .T ((ev fn a ρ).bind fun x => (itemsL x).bind fun xs => .ok (.lst xs.reverse)) G H σ Q := h
  refine seqE F h fun z v H1 G1 _ t1 F1 p1 h3 => ?_
  obtain ⟨u, hu, q1⟩ := want_pure (ne_bind (itemsL_ne z) fun _ => ne_ok) h3
  obtain ⟨xs, e1, e2⟩ := bind_okE hu
  cases e2
  have ez : z = .lst xs := by cases z <;> first | (cases e1; rfl) | cases e1
  subst ez
  obtain ⟨b, vs, rfl, s1, s2⟩ := p1.toB.lst F1.sub
  exact ⟨b, vs, rfl, s1, newT F1.ok (o := .lst _) trivial q1 (.lst s2.reverse)⟩
theorem rpl_rg {K : PySem.W.Frag} {G : Hp} (i j : Int) : RpL K G (rgV i j) (upto i (j - i).toNat) := by
  have aux : ∀ (n k : Nat), RpL K G ((List.range' k n).map fun t => V.int (i + (t : Nat))) (upto (i + k) n) := by
    intro n
    induction n with
    | zero => intro k; exact .nil
    | succ n ih =>
      intro k
      rw [List.range'_succ, List.map_cons, upto]
      refine .cons (.int _) ?_
      have := ih (k + 1)
      rw [show (i + ((k + 1 : Nat) : Int)) = i + (k : Int) + 1 by omega] at this
      exact this
  have := aux (j - i).toNat 0
  rw [← List.range_eq_range'] at this
  simpa [rgV] using this
def tLrg (te : L2.St → Hp → (Int → Int → Hp → Prop) → Prop) : TE := fun σ H Q => te σ H fun a b H1 => (b - a).toNat ≤ 2 ^ 24 ∧ ∀ q, H1 q = none → Q (.ref q) (L2.upd H1 q (.lst (rgV a b)))
theorem pe_lrg {X : Cx} {e : Expr} {te : L2.St → Hp → (Int → Int → Hp → Prop) → Prop} {p pos : Pos} (hc : X.calm = true) (hg : Gl X "list") (hm : X.mg "list" = none) (he : PRg X e te) (na : starEach [e] X.env = (false, eval e X.env) :: starEach [] X.env := by rfl) : PE X (.Call (.Name "list" p) [e] [] pos) (tLrg te) := by
  constructor
  intro pins s σ H Q I h
  refine Call_ (ld_blt I hg hm boot_list (PyProof.Rows.callWith_type1 (args_cons (thn (he pins s σ H _ I h) ?_) na) na))
  rintro x s1 ⟨r, a, b, t, u, v, H1, rfl, hr, I1, few, q⟩
  have none := I1.ok.hd hc
  have done : ∀ (h' : Heap) (tk : Tok) (acc : Array Value), (∀ b o, s1.heap.get? b = some o → h'.get? b = some o) → (∃ c, h'.get? s1.heap.objs.size = some { cls := .type "list", dict := .none, data := .seq acc c, slots := #[] }) → ItemsOf (fun i v => ∃ t, v = .int (a + i * 1) t) acc (b - a).toNat →
      EP X pins σ Q (.ref s1.heap.objs.size) { s1 with heap := h', toks := tk } := fun h' tk acc k ⟨c, z⟩ its =>
    ⟨.ref s1.heap.objs.size, L2.upd H1 s1.heap.objs.size (.lst (rgV a b)), I1.laid k (Nat.le_refl _) (show ObjOk X.prog X.w _ _ _ (.lst (rgV a b)) from ⟨by rw [rgV_length, sizeLine_eq]; omega, acc.toList, c, vals_rg its, by rw [Array.toArray_toList]; exact z⟩), rfl, q _ (I1.hok.fresh (Nat.le_refl _))⟩
  refine args_nil ?_
  cases big : Builtin.Range.small a b 1 with
  | true => exact call_list_range none hr big (rangeSize_nat a b) few fun h' tk acc c k z its => done h' tk acc k ⟨c, z⟩ its
  | false => exact (fresh_range (A := X.A.in1.in1) none few big).list hr done
theorem snd_lrng (C : Ctx T fn W cls d sc X) {a b : Ex} {l m : Expr} {p p2 q pos : Pos} (h1 : blt T sc "list" = true) (h2 : blt T sc "range" = true) (ha : Snd T fn W cls X a l) (hl : plE l = true) (hb : Snd T fn W cls X b m) (hm : plE m = true) :
    Snd T fn W cls X (.lrng a b) (.Call (.Name "list" p) [.Call (.Name "range" p2) [l, m] [] q] [] pos) := by
  obtain ⟨g1, g2, g3, g4⟩ := blt_ok C h1
  obtain ⟨k1, k2, k3, k4⟩ := blt_ok C h2
  refine .of (pe_imp (pe_lrg C.calm g1 g2 (prg_2 k1 k2 ha.pe hb.pe (plE_star hl) (plE_star hm) (any_back fun e he => by simp at he; rw [he]; exact hm))) fun σ H Q h => ?_) (fun _ => rfl) rfl
  obtain ⟨G, ρ, F, h⟩ := h
  have h : Want W cls X.K .T ((ev fn a ρ).bind fun x => (ev fn b ρ).bind fun y => (asInt x).bind fun i => (asInt y).bind fun j => .guard (decide ((j - i).toNat ≤ Line)) (.ok (.lst (upto i (j - i).toNat)))) G H σ Q := h
  refine seqE F h fun z v H1 G1 _ t1 F1 p1 h3 => ?_
  refine seqE F1 h3 fun z2 v2 H2 G2 _ t2 F2 p2 h4 => ?_
  obtain ⟨i, e5, h5⟩ := want_int h4
  obtain ⟨j, e6, h6⟩ := want_int h5
  subst e5 e6
  obtain ⟨u, hu, q1⟩ := want_pure (ne_guard ne_ok) h6
  obtain ⟨e7, e8⟩ := guard_ok hu
  cases e8
  simp only [decide_eq_true_eq] at e7
  refine ⟨i, j, p1.int, p2.int, e7, newT F2.ok (o := .lst _) trivial q1 (.lst (rpl_rg i j))⟩
theorem zip4_get : ∀ {xs ys zs ws : List D} {i : Nat}, ys.length = xs.length → zs.length = xs.length → ws.length = xs.length → i < xs.length →
    ∃ x y z w, xs[i]? = some x ∧ ys[i]? = some y ∧ zs[i]? = some z ∧ ws[i]? = some w ∧ (zip4L xs ys zs ws)[i]? = some (.tup [x, y, z, w])
  | x :: xs, y :: ys, z :: zs, w :: ws, 0, _, _, _, _ => ⟨x, y, z, w, rfl, rfl, rfl, rfl, rfl⟩
  | x :: xs, y :: ys, z :: zs, w :: ws, i + 1, h1, h2, h3, h4 => by
    simp only [List.length_cons, Nat.add_right_cancel_iff] at h1 h2 h3 h4
    obtain ⟨a, b, c, d, k1, k2, k3, k4, k5⟩ := zip4_get h1 h2 h3 (Nat.lt_of_succ_lt_succ h4)
    exact ⟨a, b, c, d, by simpa using k1, by simpa using k2, by simpa using k3, by simpa using k4, by rw [zip4L]; simpa using k5⟩
  | [], _, _, _, _, _, _, _, h => by simp at h
  | _ :: _, [], _, _, _, h, _, _, _ => by simp at h
  | _ :: _, _ :: _, [], _, _, _, h, _, _ => by simp at h
  | _ :: _, _ :: _, _ :: _, [], _, _, _, h, _ => by simp at h
theorem zip4_len : ∀ {xs ys zs ws : List D}, ys.length = xs.length → zs.length = xs.length → ws.length = xs.length → (zip4L xs ys zs ws).length = xs.length
  | [], _, _, _, _, _, _ => by simp [zip4L]
  | x :: xs, y :: ys, z :: zs, w :: ws, h1, h2, h3 => by
    simp only [List.length_cons, Nat.add_right_cancel_iff] at h1 h2 h3
    rw [zip4L, List.length_cons, List.length_cons, zip4_len h1 h2 h3]
  | _ :: _, [], _, _, h, _, _ => by simp at h
  | _ :: _, _ :: _, [], _, _, h, _ => by simp at h
  | _ :: _, _ :: _, _ :: _, [], _, _, h => by simp at h
theorem Stp.updO {G H G1 H1 : Hp} {a : Addr} {o : HO} (t : Stp G H G1 H1) (hn : H a = none) (hg : G1 a = none) (w : Owb o) : Stp G H G1 (L2.upd H1 a o) := by
  refine ⟨fun b x e => ?_, t.g, ⟨fun b x e => ?_, fun b x e n => ?_⟩, fun b x e n => t.k b x e n⟩
  · rw [upd_ne (ne_of_none e hn)]; exact t.h _ _ e
  · rw [upd_ne (ne_of_none e hg)]; exact t.o.s _ _ e
  · by_cases hb : b = a
    · subst hb; rw [upd_same] at e; cases e; exact w
    · rw [upd_ne hb] at e; exact t.o.z _ _ e n
theorem snd_lzip (C : Ctx T fn W cls d sc X) {es : Exs} {l1 l2 l3 l4 : Expr} {p p2 q pos : Pos} (h1 : blt T sc "list" = true) (h2 : blt T sc "zip" = true) (ha : PA X [l1, l2, l3, l4] (tL T fn W cls X.K false es)) (hp : ∀ e ∈ [l1, l2, l3, l4], plE e = true) :
    Snd T fn W cls X (.lzip es) (.Call (.Name "list" p) [.Call (.Name "zip" p2) [l1, l2, l3, l4] [] q] [] pos) := by
  obtain ⟨g1, g2, g3, g4⟩ := blt_ok C h1
  obtain ⟨k1, k2, k3, k4⟩ := blt_ok C h2
  refine .of (pe_imp (pe_lz4 C.calm g1 g2 k1 k2 ha (plE_star (hp l1 (by simp))) (any_back fun e he => hp e (List.mem_cons_of_mem _ he))) fun σ H Q h => ?_) (fun _ => rfl) rfl
  obtain ⟨G, ρ, F, h⟩ := h
  have h : Want W cls X.K .T ((evs fn es ρ).bind fun ds => zip4D ds) G H σ Q := h
  refine seqL F h fun zs vs H1 G1 e t1 F1 p1 h3 => ?_
  have p1 : PBL X.K G1 H1 vs zs := p1
  have ne : ∀ c, zip4D zs ≠ .exc c := by unfold zip4D; split <;> first | exact ne_guard ne_ok | exact ne_bad
  obtain ⟨u, hu, q1⟩ := want_pure ne h3
  match zs, hu, p1 with
  | [.lst x1, .lst x2, .lst x3, .lst x4], hu, .cons (v := v1) a1 (.cons (v := v2) a2 (.cons (v := v3) a3 (.cons (v := v4) a4 .nil))) =>
    obtain ⟨e5, e6⟩ := guard_ok hu
    cases e6
    simp only [Bool.and_eq_true, decide_eq_true_eq] at e5
    obtain ⟨⟨n2, n3⟩, n4⟩ := e5
    obtain ⟨b1, w1, rfl, s1, r1⟩ := a1.lst F1.sub
    obtain ⟨b2, w2, rfl, s2, r2⟩ := a2.lst F1.sub
    obtain ⟨b3, w3, rfl, s3, r3⟩ := a3.lst F1.sub
    obtain ⟨b4, w4, rfl, s4, r4⟩ := a4.lst F1.sub
    have m1 := r1.len
    have m2 := r2.len
    have m3 := r3.len
    have m4 := r4.len
    refine ⟨b1, b2, b3, b4, w1, w2, w3, w4, rfl, s1, s2, s3, s4, by omega, by omega, by omega, fun S hS => ?_⟩
    have zl := zip4_len n2 n3 n4
    refine ⟨fun i acc H' => ∃ G', Stp G1 H1 G' H' ∧ G' S = none ∧ H' S = some (.lst acc) ∧ RpL X.K G' acc ((zip4L x1 x2 x3 x4).take i), ⟨G1, Stp.newO F1.ok hS trivial, F1.sub.free hS, upd_same, .nil⟩, fun i acc H' o hi hy hP => ?_, fun acc H' hP => ?_⟩
    · obtain ⟨G', t, gS, hS', r⟩ := hP
      have al : acc.length = i := by
        rw [r.len, List.length_take, zl]
        omega
      refine ⟨hS', al, fun T' hT => ?_⟩
      obtain ⟨x, y, z, w, f1, f2, f3, f4, rfl⟩ := hy
      obtain ⟨c1, c2, c3, c4, j1, j2, j3, j4, j5⟩ := zip4_get n2 n3 n4 (show i < x1.length by omega)
      obtain ⟨y1, e1, rr1⟩ := r1.get j1
      obtain ⟨y2, e2, rr2⟩ := r2.get j2
      obtain ⟨y3, e3, rr3⟩ := r3.get j3
      obtain ⟨y4, e4, rr4⟩ := r4.get j4
      rw [f1] at e1
      rw [f2] at e2
      rw [f3] at e3
      rw [f4] at e4
      cases e1
      cases e2
      cases e3
      cases e4
      have sne : S ≠ T' := ne_of_none hS' hT
      have t2 : Stp G1 H1 (L2.upd G' T' (.tup [x, y, z, w])) (L2.upd H' T' (.tup [x, y, z, w])) := t.trans (Stp.newS t.o hT)
      have gT : G' T' = none := t.s.free hT
      have gS2 : L2.upd G' T' (.tup [x, y, z, w]) S = none := by rw [upd_ne sne]; exact gS
      have sg := same_upd (o := .tup [x, y, z, w]) gT
      refine ⟨_, t2.updO hS gS2 trivial, gS2, upd_same, ?_⟩
      rw [List.take_add_one, j5]
      refine (r.mono sg).append (.cons (.tup (SqT.of upd_same) ?_) .nil)
      have s := t.g.trans sg
      exact .cons (rr1.mono s) (.cons (rr2.mono s) (.cons (rr3.mono s) (.cons (rr4.mono s) .nil)))
    · obtain ⟨G', t, gS, hS', r⟩ := hP
      rw [m1, ← zl, List.take_length] at r
      exact q1 _ _ _ t ⟨S, _, rfl, hS, hS', gS, .lst r⟩
theorem snd_dmin (C : Ctx T fn W cls d sc X) {mx : Bool} {a : Ex} {l : Expr} {j : Nat} {p p3 p4 pos : Pos} (h1 : blt T sc (if mx then "max" else "min") = true) (ha : Snd T fn W cls X a l) (hl : plE l = true) :
    Snd T fn W cls X (.dmin mx a) (.Call (.Name (if mx then "max" else "min") p) [l] [⟨some "default", .Constant .none j p3, p4⟩] pos) := by
  obtain ⟨g1, g2, g3, g4⟩ := blt_ok C h1
  have hb : bootBuiltins (if mx then "max" else "min") = some (.builtin (if mx then "max" else "min")) := by cases mx <;> decide +kernel
  refine .of (pe_imp (pe_callBK (cr_dm C.calm C.un mx) g1 g2 hb (pa_cons ha.pe pa_nil (plE_star hl)) (pk_cons pe_non pk_nil) g3 g4 (by rw [plE_star hl]; rfl) (any_back fun e he => by simp at he; rw [he]; exact hl)) fun σ H Q h => ?_) (fun _ => rfl) rfl
  obtain ⟨G, ρ, F, h⟩ := h
  have h : Want W cls X.K .S ((ev fn a ρ).bind fun x => (itemsL x).bind fun xs => (someR (dInts xs)).bind fun is => .ok (dmD mx is)) G H σ Q := h
  refine seqE F h fun z v H1 G1 _ t1 F1 p1 h3 => ?_
  obtain ⟨u, hu, q1⟩ := want_pure (ne_bind (itemsL_ne z) fun _ => ne_bind (someR_ne _) fun _ => ne_ok) h3
  obtain ⟨xs, e1, e2⟩ := bind_okE hu
  obtain ⟨is, e3, e4⟩ := bind_okE e2
  cases e4
  have ez : z = .lst xs := by cases z <;> first | (cases e1; rfl) | cases e1
  subst ez
  obtain rfl := dInts_map (someR_ok e3)
  obtain ⟨b, vs, rfl, s1, s2⟩ := p1.toB.lst F1.sub
  obtain rfl := s2.ints
  refine ⟨b, is, rfl, rfl, s1, q1 _ _ _ (Stp.refl F1.ok) ?_⟩
  cases is with
  | nil => exact Rp.non
  | cons m r => exact Rp.int _
theorem catD_ne (x y : D) : ∀ c, catD x y ≠ .exc c := by
  unfold catD
  split <;> first | exact ne_guard ne_ok | exact ne_bad
theorem snd_cat (C : Ctx T fn W cls d sc X) {a b : Ex} {l r : Expr} {p : Pos} (ha : Snd T fn W cls X a l) (hb : Snd T fn W cls X b r) : Snd T fn W cls X (.cat a b) (.BinOp l .Add r p) := by
  refine .of (pe_imp (pe_op op_catL ha.pe hb.pe) fun σ H Q h => ?_) (fun _ => rfl) rfl
  obtain ⟨G, ρ, F, h⟩ := h
  have h : Want W cls X.K .T ((ev fn a ρ).bind fun x => (ev fn b ρ).bind fun y => catD x y) G H σ Q := h
  refine seqE F h fun z1 v1 H1 G1 _ t1 F1 p1 h1 => ?_
  refine seqE F1 h1 fun z2 v2 H2 G2 _ t2 F2 p2 h2 => ?_
  obtain ⟨z, hz, q⟩ := want_pure (catD_ne z1 z2) h2
  have p1 := p1.toB.step t2
  have p2 := p2.toB
  match z1, z2, hz, p1, p2 with
  | .lst xs, .lst ys, hz, p1, p2 =>
    obtain ⟨g1, g2⟩ := guard_ok hz
    cases g2
    obtain ⟨a1, us, rfl, s1, r1⟩ := p1.lst F2.sub
    obtain ⟨a2, ws, rfl, s2, r2⟩ := p2.lst F2.sub
    refine ⟨a1, a2, us, ws, rfl, rfl, s1, s2, ?_, newT F2.ok (o := .lst _) trivial q (.lst (r1.append r2))⟩
    rw [sizeLn, r1.len, r2.len]; exact of_decide_eq_true g1
theorem snd_call0 (C : Ctx T fn W cls d sc X) {f : Nat} {x : Str} {fr : Bool} {p p2 : Pos} (hf : T.fns.lookup f = some (x, 0, fr)) (h1 : glB sc x = true) (h2 : nmB x = true) : Snd T fn W cls X (.call0 f) (.Call (.Name x p) [] [] p2) := by
  obtain ⟨n1, n2, n3⟩ := nmB_ok h2
  obtain ⟨fa, fd, ps, k, hF, hr, hm, hk, hb⟩ := (C.fns f x 0 fr hf).ex
  refine .of (pe_imp (pe_call0S hF hr (glB_ok h1 C.hs) hm hk hb (fun σ => passAt C.tk σ) n1) fun σ H Q h => ?_) (fun _ => rfl) rfl
  obtain ⟨G, ρ, F, h⟩ := h
  have ek : kd T (.call0 f) = if fr then .T else .S := by
    show (match T.fns.lookup f with | some (_, _, true) => Kd.T | _ => Kd.S) = _
    rw [hf]
    cases fr <;> rfl
  rw [ek] at h
  have h : Want W cls X.K (if fr then .T else .S) (fn f []) G H σ Q := h
  refine ⟨rfl, G, [], F.ok, .nil, ?_⟩
  cases e2 : fn f [] with
  | ok z => rw [e2] at h; exact h
  | exc c => rw [e2] at h; exact h
  | bad => rw [e2] at h; exact h
end
end Den
namespace Den
open PySem PySem.Spec PyProof.Rows L2
/-- what stands behind an expression is locked from here on -/
def tKeep (t : TE) : TE := fun σ H Q => t σ H fun v H1 => ∃ a u, v = .ref a ∧ H1 a = some u ∧ Mut (some u) ∧ ∀ od, Q v (upd H1 a (.frz od u))
theorem pe_keep {X : Cx} {e : Expr} {t : TE} (h : PE X e t) : PE X e (tKeep t) := by
  refine ⟨fun pins s σ H Q I hw => ?_⟩
  refine thn (h.run pins s σ _ _ I hw) fun v s1 ⟨x, H1, I2, r, a, u, ex, e2, mu, q⟩ => ?_
  subst ex
  obtain ⟨od, I3⟩ := I2.lock e2 mu
  exact ⟨_, _, I3, r, q od⟩
/-- a new object that was own: shared and locked -/
theorem Stp.keep {G H G1 H1 : Hp} {a : Addr} {o : HO} (t : Stp G H G1 H1) (hn : H a = none) (hg : G1 a = none) : Stp G H (L2.upd G1 a o) (L2.upd H1 a o) := by
  refine ⟨fun b x e => ?_, t.g.trans (same_upd hg), ⟨fun b x e => ?_, fun b x e n => ?_⟩, fun b x e n => ?_⟩
  · rw [upd_ne (ne_of_none e hn)]; exact t.h _ _ e
  · by_cases hb : b = a
    · subst hb; rw [upd_same] at e ⊢; exact e
    · rw [upd_ne hb] at e ⊢; exact t.s _ _ e
  · by_cases hb : b = a
    · subst hb; rw [upd_same] at n; cases n
    · rw [upd_ne hb] at e n; exact t.o.z _ _ e n
  · rw [upd_ne (ne_of_none e hn)]; exact t.k _ _ e n
theorem kD_rp1 {K : PySem.W.Frag} {G : Hp} (k : Key) : Rp K G (kV k) (kD k) := by
  cases k with
  | inl i => exact .int i
  | inr i => exact .str i
section
variable {T : Tbl} {fn : Nat → List D → R D} {W : WX} {cls : Nat → Value} {d : Bool} {sc : Scope} {X : Cx}
theorem snd_dnew (C : Ctx T fn W cls d sc X) {t : Bool} {p : Pos} : Snd T fn W cls X (.dnew t) (.Dict [] [] p) := by
  cases t with
  | true =>
    refine .of (pe_imp pe_dnewT fun σ H Q h => ?_) (fun _ => rfl) rfl
    obtain ⟨G, ρ, F, h⟩ := h
    exact newT F.ok (o := .dT []) trivial (fun v H' G' t r => h v H' G' t r) (.dcT (kvs := []) .nil)
  | false =>
    refine .of (pe_imp pe_dnewK fun σ H Q h => ?_) (fun _ => rfl) rfl
    obtain ⟨G, ρ, F, h⟩ := h
    exact newT F.ok (o := .dK []) trivial (fun v H' G' t r => h v H' G' t r) (.dct (kvs := []) .nil)
theorem snd_dlit (C : Ctx T fn W cls d sc X) {k v : Ex} {l r : Expr} {p : Pos} (hk : Snd T fn W cls X k l) (hv : Snd T fn W cls X v r) (nv : nB T v = true) : Snd T fn W cls X (.dlit k v) (.Dict [some l] [r] p) := by
  refine .of (pe_imp (pe_keep (pe_disp (pps_cons hk.pe hv.pe pps_nil) rfl rfl (by simp) (by simp))) fun σ H Q h => ?_) (fun _ => rfl) rfl
  obtain ⟨G, ρ, F, h⟩ := h
  intro a ha
  have t0 : Stp G H G (L2.upd H a (.dK [])) := Stp.newO F.ok ha trivial
  have hga : G a = none := F.ok.s.free ha
  refine seqE (F.step t0) (Want.shift t0 (show Want W cls X.K .S ((ev fn k ρ).bind fun x => (ev fn v ρ).bind fun y => dlD x y) G H σ Q from h)) fun z1 v1 H1 G1 k1 t1 F1 p1 h1 => ?_
  refine seqE F1 h1 fun z2 v2 H2 G2 k2 t2 F2 p2 h2 => ?_
  obtain ⟨z, hz, q⟩ := want_pure (dlD_ne z1 z2) h2
  unfold dlD at hz
  split at hz
  · rename_i kk hkk
    cases hz
    obtain ⟨G3, t3, r3⟩ := p2.toS (nB_ne nv) t2
    have t4 := (t0.trans t1).trans t3
    have e1 : v1 = kV kk := p1.toB.key hkk
    subst e1
    have hh : H2 a = some (.dK []) := t3.h _ _ (t1.h _ _ upd_same)
    have hg3 : G3 a = none := t3.k _ _ (t1.h _ _ upd_same) (t1.k _ _ upd_same hga)
    refine ⟨hh, [(kk, v2)], rfl, by simp, a, .dK [(kk, v2)], rfl, upd_same, trivial, fun od => ?_⟩
    rw [upd_upd]
    have h' : Want W cls X.K .S ((ev fn k ρ).bind fun x => (ev fn v ρ).bind fun y => dlD x y) G H σ Q := h
    rw [k1, R.bind_ok, k2, R.bind_ok] at h'
    unfold dlD at h'
    rw [hkk] at h'
    exact h' _ _ _ (t4.keep ha hg3) (.dctL (kvs := [(kk, v2)]) upd_same (.cons (r3.mono (same_upd hg3)) .nil))
  · cases hz
theorem see_ok (C : Ctx T fn W cls d sc X) {i : Nat} {x : Str} {p : Pos} (h : seeB T sc i x = true) : Snd T fn W cls X (.var i) (.Name x p) := by
  unfold seeB at h
  rw [Bool.and_eq_true, Bool.and_eq_true, decide_eq_true_eq] at h
  exact snd_var C h.1.1 h.1.2 h.2
theorem want_dct {k : Kd} {f : D → R D} {G H : Hp} {σ : L2.St} {Q : VK} {z : D} (h : Want W cls X.K k ((asDct z).bind f) G H σ Q) : ∃ b ks ds, z = .dct b ks ds ∧ Want W cls X.K k (f (.dct b ks ds)) G H σ Q := by
  cases z with
  | dct b ks ds => exact ⟨b, ks, ds, rfl, h⟩
  | _ => exact h.elim
theorem isD_of {G H : Hp} {v : V} {f : Bool} {ks : List Key} {ds : List D} (s : Same G H) (p : PB X.K G H v (.dct f ks ds)) : ∃ a, v = .ref a ∧ IsD H a := by
  obtain ⟨a, kvs, rfl, h1, _, _⟩ := p.dct s
  exact ⟨a, rfl, .inl ⟨kvs, h1⟩⟩
theorem dgD_ok {G H : Hp} {x y w : V} {f : Bool} {ks : List Key} {ds : List D} {b c z : D} (s : Same G H) (px : PB X.K G H x (.dct f ks ds)) (py : PB X.K G H y b) (pw : Rp X.K G w c) (h : dgD (.dct f ks ds) b c = .ok z) :
    ∃ a o, x = .ref a ∧ DGet H a y o ∧ Rp X.K G (o.getD w) z := by
  unfold dgD at h
  simp only at h
  split at h
  · rename_i k hk
    cases h
    obtain ⟨a, o, rfl, g, i1, i2⟩ := dget_of s px py hk
    refine ⟨a, o, rfl, g, ?_⟩
    cases e : lkD ks ds k with
    | none => rw [i2 e]; exact pw
    | some q => obtain ⟨v, rfl, r⟩ := i1 q e; exact r
  · cases h
theorem m1_of {x : Str} {p ap cp : Pos} {m : Str} {l : Expr} (hl : plE l = true) (he : (ap.endLine == cp.line) = true) : M1 X (.Name x p) m ap l cp := by
  refine ⟨rfl, ?_, he, ?_⟩
  · rw [plE_star hl]; rfl
  · rw [plE_star hl]; rfl
theorem m2_of {x : Str} {p ap cp : Pos} {m : Str} {l r : Expr} (hl : plE l = true) (hr : plE r = true) (he : (ap.endLine == cp.line) = true) : M2 X (.Name x p) m ap l r cp := by
  refine ⟨rfl, ?_, he, ?_⟩
  · rw [plE_star hl, plE_star hr]; rfl
  · rw [plE_star hl, plE_star hr]; rfl
theorem ab_ok {o : Expr} {f : Str} {env : PySem.Env} {k : Sem Value} (h : abB o = true) : attributeBase o f env k = k := by
  unfold abB at h
  split at h
  · cases h
  · rename_i hn
    unfold attributeBase
    split
    · rename_i id p pos
      exact absurd rfl (hn id p pos)
    · rfl
theorem dStrs_map : ∀ {ds : List D} {is : List Str}, dStrs ds = some is → ds = is.map .str
  | [], is, h => by cases h; rfl
  | .str i :: r, is, h => by
    rw [dStrs] at h
    cases e : dStrs r with
    | none => rw [e] at h; cases h
    | some js =>
      rw [e] at h
      cases h
      rw [dStrs_map e]; rfl
  | .non :: _, _, h => by cases h
  | .bl _ :: _, _, h => by cases h
  | .int _ :: _, _, h => by cases h
  | .tup _ :: _, _, h => by cases h
  | .lst _ :: _, _, h => by cases h
  | .dct _ _ _ :: _, _, h => by cases h
  | .dcT _ _ :: _, _, h => by cases h
  | .obj _ _ :: _, _, h => by cases h
theorem strs_vs {K : PySem.W.Frag} {G : Hp} : ∀ {vs : List V} {is : List Str}, RpL K G vs (is.map .str) → vs = is.map V.str
  | _, [], .nil => rfl
  | _, _ :: _, .cons r t => by
    cases r
    rw [List.map_cons, ← strs_vs t]
/-- what a text's method gives -/
def MtD (X : Cx) (id : String) (k : Kd) (m : Tm) : Prop := ∃ r : V → List V → Hp → VK → Prop, MtR X id r ∧
  ∀ (G H : Hp) (a : Str) (y : V) (e z : D) (Q : VK), Ok2 G H → PB X.K G H y e → tmD m a e = .ok z → (∀ v H' G', Stp G H G' H' → PK k X.K G H G' H' v z → Q v H') → r (.str a) [y] H Q
def Tm.id : Tm → String
  | .split => "str.split" | .join => "str.join" | .part => "str.partition" | .starts => "str.startswith" | .index => "str.index"
def Tm.kd : Tm → Kd
  | .split => .T
  | _ => .S
theorem mtD_tm (m : Tm) : MtD X m.id m.kd m := by
  cases m with
  | split =>
    refine ⟨_, mt_split, fun G H a y e z Q ok py hg q => ?_⟩
    cases e with
    | str b =>
      obtain ⟨g1, g2⟩ := guard_ok hg
      cases g2
      rw [Bool.and_eq_true, decide_eq_true_eq, decide_eq_true_eq] at g1
      refine ⟨a, b, rfl, by rw [py.str], by simpa using g1.1, by rw [sizeLn]; exact g1.2, fun p hp => ?_⟩
      exact newT ok (o := .lst _) trivial q (.lst (strs_rp _)) p hp
    | _ => cases hg
  | join =>
    refine ⟨_, mt_join, fun G H a y e z Q ok py hg q => ?_⟩
    have fin : ∀ {v : V}, Rp X.K G v z → Q v H := fun r => q _ _ _ (Stp.refl ok) r
    have parts : ∀ {xs : List D}, joinD a xs = .ok z → ∃ ys : List Str, xs = ys.map .str ∧ (ys.map (·.length)).sum + ys.length * a.length ≤ 16777216 ∧ z = .str (Txt.join a ys) := fun {xs} h => by
      obtain ⟨ys, h1, h2⟩ := bind_okE h
      obtain ⟨g1, g2⟩ := guard_ok h2
      cases g2
      exact ⟨ys, dStrs_map (someR_ok h1), of_decide_eq_true g1, rfl⟩
    cases e with
    | lst xs =>
      obtain ⟨ys, rfl, h2, rfl⟩ := parts hg
      obtain ⟨p, vs, rfl, h3, h4⟩ := py.lst ok.s
      obtain rfl := strs_vs h4
      exact ⟨a, p, ys, rfl, rfl, .inl h3, h2, fin (.str _)⟩
    | tup xs =>
      obtain ⟨ys, rfl, h2, rfl⟩ := parts hg
      obtain ⟨p, vs, rfl, h3, h4⟩ := py.tup
      obtain rfl := strs_vs h4
      exact ⟨a, p, ys, rfl, rfl, .inr (seqT ok.s h3), h2, fin (.str _)⟩
    | _ => cases hg
  | part =>
    refine ⟨_, mt_partition, fun G H a y e z Q ok py hg q => ?_⟩
    cases e with
    | str b =>
      obtain ⟨g1, g2⟩ := guard_ok hg
      cases g2
      rw [Bool.and_eq_true, decide_eq_true_eq, decide_eq_true_eq] at g1
      refine ⟨a, b, rfl, by rw [py.str], by simpa using g1.1, by rw [sizeLn]; exact g1.2, ?_⟩
      exact newS ok (fun v H' G' t r => q v H' G' t r) fun p hp => .tup (SqT.of upd_same) (.cons (.str _) (.cons (.str _) (.cons (.str _) .nil)))
    | _ => cases hg
  | starts =>
    refine ⟨_, mt_startswith, fun G H a y e z Q ok py hg q => ?_⟩
    cases e with
    | str b =>
      cases hg
      exact ⟨a, b, rfl, by rw [py.str], q _ _ _ (Stp.refl ok) (Rp.bl _)⟩
    | _ => cases hg
  | index =>
    refine ⟨_, mt_sindex, fun G H a y e z Q ok py hg q => ?_⟩
    cases e with
    | str b =>
      cases h : Builtin.Str.occurrences a b 0 a.length 1 with
      | nil => simp only [tmD, h] at hg; cases hg
      | cons i rest =>
        simp only [tmD, h] at hg
        cases hg
        exact ⟨a, b, i, rest, rfl, by rw [py.str], h, q _ _ _ (Stp.refl ok) (Rp.int _)⟩
    | _ => cases hg
theorem snd_tm (C : Ctx T fn W cls d sc X) {m : Tm} {a b : Ex} {o l : Expr} {ap cp : Pos} (hb : abB o = true) (h2 : (ap.endLine == cp.line) = true) (ha : Snd T fn W cls X a o) (hk : Snd T fn W cls X b l) (hl : plE l = true) :
    Snd T fn W cls X (.tm m a b) (.Call (.Attribute o m.nm ap) [l] [] cp) := by
  obtain ⟨R, hR, hq⟩ := mtD_tm (X := X) m
  have slot : Slot "str" m.nm m.id := by
    cases m
    · exact PySem.F.slot_str_split
    · exact PySem.F.slot_str_join
    · exact PySem.F.slot_str_partition
    · exact PySem.F.slot_str_startswith
    · exact PySem.F.slot_str_index
  have ty : typeOf (.builtin m.id) = pure (.type "method_descriptor") := by
    cases m
    · exact PySem.F.type_str_split
    · exact PySem.F.type_str_join
    · exact PySem.F.type_str_partition
    · exact PySem.F.type_str_startswith
    · exact PySem.F.type_str_index
  have kk : kd T (.tm m a b) = m.kd := by cases m <;> rfl
  refine .of (pe_imp (pe_m1 slot ty hR ha.pe hk.pe (by rw [plE_star hl]; rfl) (ab_ok hb) h2) fun σ H Q h => ?_) (fun _ => rfl) rfl
  obtain ⟨G, ρ, F, h⟩ := h
  rw [kk] at h
  refine seqE F (show Want W cls X.K m.kd ((ev fn a ρ).bind fun x => (asStr x).bind fun s => (ev fn b ρ).bind fun y => tmD m s y) G H σ Q from h) fun z1 v1 H1 G1 _ t1 F1 p1 h1 => ?_
  obtain ⟨s, rfl, h1⟩ := want_str h1
  have e1 := p1.toB.str
  subst e1
  refine ⟨⟨s, rfl⟩, seqE F1 h1 fun z2 v2 H2 G2 _ t2 F2 p2 h2 => ?_⟩
  obtain ⟨z, hz, q⟩ := want_pure (tmD_ne m s z2) h2
  exact hq G2 H2 s v2 z2 z Q F2.ok p2.toB hz q
theorem snd_dget1 (C : Ctx T fn W cls d sc X) {i : Nat} {k : Ex} {x : Str} {l : Expr} {p ap cp : Pos} (h1 : seeB T sc i x = true) (h2 : (ap.endLine == cp.line) = true) (hk : Snd T fn W cls X k l) (hl : plE l = true) :
    Snd T fn W cls X (.dget1 i k) (.Call (.Attribute (.Name x p) "get" ap) [l] [] cp) := by
  have hu := C.un
  refine .of (pe_imp (pe_dget1 (by omega) (see_ok C h1).pe hk.pe (m1_of hl h2)) fun σ H Q h => ?_) (fun _ => rfl) rfl
  obtain ⟨G, ρ, F, h⟩ := h
  refine seqE F (show Want W cls X.K .S ((ev fn (.var i) ρ).bind fun x => (asDct x).bind fun x => (ev fn k ρ).bind fun y => dgD x y .non) G H σ Q from h) fun z1 v1 H1 G1 k1 t1 F1 p1 h1 => ?_
  obtain ⟨f, ks, ds, rfl, h1⟩ := want_dct h1
  obtain ⟨a, rfl, hd⟩ := isD_of F1.sub p1.toB
  refine ⟨a, rfl, hd, ?_⟩
  refine seqE F1 h1 fun z2 v2 H2 G2 k2 t2 F2 p2 h2 => ?_
  obtain ⟨z, hz, q⟩ := want_pure (dgD_ne _ _ _) h2
  obtain ⟨a', o, e, g, r⟩ := dgD_ok (w := .non) F2.sub (p1.toB.step t2) p2.toB .non hz
  cases e
  exact ⟨o, g, q _ _ _ (Stp.refl F2.ok) r⟩
theorem snd_dget2 (C : Ctx T fn W cls d sc X) {i : Nat} {k w : Ex} {x : Str} {l r : Expr} {p ap cp : Pos} (h1 : seeB T sc i x = true) (h2 : (ap.endLine == cp.line) = true) (hk : Snd T fn W cls X k l) (hl : plE l = true)
    (hw : Snd T fn W cls X w r) (hr : plE r = true) (nw : nB T w = true) : Snd T fn W cls X (.dget2 i k w) (.Call (.Attribute (.Name x p) "get" ap) [l, r] [] cp) := by
  have hu := C.un
  refine .of (pe_imp (pe_dget2 (by omega) (see_ok C h1).pe hk.pe hw.pe (m2_of hl hr h2)) fun σ H Q h => ?_) (fun _ => rfl) rfl
  obtain ⟨G, ρ, F, h⟩ := h
  refine seqE F (show Want W cls X.K .S ((ev fn (.var i) ρ).bind fun x => (asDct x).bind fun x => (ev fn k ρ).bind fun y => (ev fn w ρ).bind fun w => dgD x y w) G H σ Q from h) fun z1 v1 H1 G1 k1 t1 F1 p1 h1 => ?_
  obtain ⟨f, ks, ds, rfl, h1⟩ := want_dct h1
  obtain ⟨a, rfl, hd⟩ := isD_of F1.sub p1.toB
  refine ⟨a, rfl, hd, ?_⟩
  refine seqE F1 h1 fun z2 v2 H2 G2 k2 t2 F2 p2 h2 => ?_
  refine seqE F2 h2 fun z3 v3 H3 G3 k3 t3 F3 p3 h3 => ?_
  obtain ⟨z, hz, q⟩ := want_pure (dgD_ne _ _ _) h3
  obtain ⟨G4, t4, r4⟩ := p3.toS (nB_ne nw) t3
  obtain ⟨a', o, e, g, r⟩ := dgD_ok (G := G4) t4.s ((p1.toB.step t2).step t4) (p2.toB.step t4) r4 hz
  cases e
  have q' : Q (o.getD v3) H3 := by
    have h' : Want W cls X.K .S ((ev fn (.var i) ρ).bind fun x => (asDct x).bind fun x => (ev fn k ρ).bind fun y => (ev fn w ρ).bind fun w => dgD x y w) G H σ Q := h
    rw [k1, R.bind_ok] at h'
    have h' : Want W cls X.K .S ((ev fn k ρ).bind fun y => (ev fn w ρ).bind fun w => dgD (.dct f ks ds) y w) G H σ Q := h'
    rw [k2, R.bind_ok, k3, R.bind_ok, hz] at h'
    exact h' _ _ _ ((t1.trans t2).trans t4) r
  exact ⟨o, g, q'⟩
theorem pairL_get : ∀ {ks : List Key} {ds : List D} {i : Nat} {z : D}, (pairL ks ds)[i]? = some z → ∃ k x, ks[i]? = some k ∧ ds[i]? = some x ∧ z = .tup [kD k, x]
  | [], _, i, z, h => by simp [pairL] at h
  | _ :: _, [], i, z, h => by simp [pairL] at h
  | k :: ks, x :: ds, 0, z, h => by
    simp only [pairL, List.getElem?_cons_zero, Option.some.injEq] at h
    exact ⟨k, x, rfl, rfl, h.symm⟩
  | k :: ks, x :: ds, i + 1, z, h => by
    simp only [pairL, List.getElem?_cons_succ] at h
    obtain ⟨e, f, h1, h2, h3⟩ := pairL_get h
    exact ⟨e, f, by simpa using h1, by simpa using h2, h3⟩
theorem pairL_len : ∀ {ks : List Key} {ds : List D}, ks.length = ds.length → (pairL ks ds).length = ks.length
  | [], [], _ => rfl
  | k :: ks, x :: ds, h => by rw [pairL, List.length_cons, List.length_cons, pairL_len (by simpa using h)]
  | [], _ :: _, h => by simp at h
  | _ :: _, [], h => by simp at h
theorem yields_its {K : PySem.W.Frag} {Kp : Hp → Prop} {G0 : Hp} {a : Addr} {o : Obj} {kvs : List (Key × V)} {ds : List D} (e : G0 a = some (.frz o (.dK kvs))) (l : RpL K G0 (kvs.map (·.2)) ds) :
    Yields K Kp (Iti a o kvs) (pairL (kvs.map (·.1)) ds) G0 := by
  intro G H sg ok hk
  have hH : H a = some (.frz o (.dK kvs)) := ok.s _ _ (sg _ _ e)
  have hn : (pairL (kvs.map (·.1)) ds).length = kvs.length := by
    rw [pairL_len (by rw [← l.len]; simp)]; simp
  refine ⟨fun i z hz => ?_, hH, by rw [hn]; exact Nat.le_refl _⟩
  obtain ⟨k, x, h1, h2, rfl⟩ := pairL_get hz
  refine ⟨⟨hH, ?_⟩, fun x' H' y => ?_⟩
  · have := (List.getElem?_eq_some_iff.mp hz).1
    rw [hn] at this
    exact this
  · obtain ⟨q, k', v, e1, rfl, hq, rfl⟩ := y
    rw [List.getElem?_map, e1] at h1
    cases h1
    obtain ⟨v', e2, r⟩ := l.get h2
    rw [List.getElem?_map, e1] at e2
    cases e2
    exact ⟨_, Stp.newS ok hq, .tup (SqT.of upd_same) (.cons (kD_rp1 _) (.cons ((r.mono sg).mono (same_upd (ok.s.free hq))) .nil))⟩
theorem pi_its (C : Ctx T fn W cls d sc X) {i : Nat} {x : Str} {es : List Expr} {kk : Nat} {tp p ap cp : Pos} (h1 : seeB T sc i x = true) (h2 : (ap.endLine == cp.line) = true) (ho : (!T.isOwn i) = true) :
    PI X (.Tuple es kk tp) (.Call (.Attribute (.Name x p) "items" ap) [] [] cp) (tIt T fn W cls X.K (.its i)) := by
  have ho : T.isOwn i = false := by cases q : T.isOwn i <;> simp_all
  refine pi_imp (pi_items (see_ok C h1).pe rfl h2) fun σ H R h => ?_
  obtain ⟨G, ρ, F, h⟩ := h
  refine wantI_seq F (show WantI W cls X.K (nBI T (.its i)) ((ev fn (.var i) ρ).bind itemsD) G H σ R from h) fun z v H1 G1 k1 t1 F1 p1 h1 => ?_
  obtain ⟨zs, hz, q⟩ := wantI_ok (itemsD_ne z) h1
  have hk : kd T (.var i) = .S := by show (if T.isOwn i then Kd.B else Kd.S) = _; rw [ho]; rfl
  rw [hk] at p1
  have p1 : Rp X.K G1 v z := p1
  unfold itemsD at hz
  split at hz
  · cases hz
    cases p1 with
    | dctL e l => exact ⟨_, _, _, rfl, F1.ok.s _ _ e, q _ _ _ (Stp.refl F1.ok) (yields_its e l)⟩
  · cases hz
/-- a list display so many times: the display first, then the new list -/
theorem RpL.times {K : PySem.W.Frag} {G : Hp} {xs : List V} {ds : List D} (h : RpL K G xs ds) : ∀ n : Nat, RpL K G (List.replicate n xs).flatten (List.replicate n ds).flatten
  | 0 => .nil
  | n + 1 => by
    rw [List.replicate_succ, List.replicate_succ, List.flatten_cons, List.flatten_cons]
    exact h.append (h.times n)
theorem snd_repL (C : Ctx T fn W cls d sc X) {es : Exs} {n : Nat} {l : List Expr} {p p2 p3 : Pos} {j} (ha : PA X l (tL T fn W cls X.K true es)) (hl : l.length ≤ Line) (hlen : ∀ ρ zs, evs fn es ρ = .ok zs → zs.length = l.length) : Snd T fn W cls X (.repL es n) (.BinOp (.List l p) .Mult (.Constant (.int (n : Int)) j p2) p3) := by
  refine .of (pe_imp (pe_op op_rep (pe_lst ha) pe_int) fun σ H Q h => ?_) (fun _ => rfl) rfl
  obtain ⟨G, ρ, F, h⟩ := h
  refine seqL F h fun zs vs H1 G1 e t1 F1 p1 h1 => ?_
  have p1 : RpL X.K G1 vs zs := p1
  have hz := hlen ρ zs e
  have hv := p1.len
  obtain ⟨z, gz, q⟩ := want_pure (ne_guard ne_ok) h1
  obtain ⟨g1, g2⟩ := guard_ok gz
  cases g2
  obtain ⟨k1, k2⟩ := of_decide_eq_true g1
  refine ⟨by rw [hv, hz, sizeLn]; exact hl, fun a ha => ?_⟩
  have t0 : Stp G1 H1 G1 (L2.upd H1 a (.lst vs)) := Stp.newO F1.ok ha trivial
  refine ⟨a, n, vs, rfl, rfl, upd_same, by omega, by omega, ?_, ?_⟩
  · rw [Int.toNat_natCast, hv, sizeLn]; exact k2
  · rw [Int.toNat_natCast]
    exact newT (F1.step t0).ok (o := .lst _) trivial (fun v H' G' t r => q v H' G' (t0.trans t) (PK.shift (k := .T) t0 r)) (.lst (p1.times n))
end
end Den
namespace Den
open PySem PySem.Spec PyProof.Rows L2
theorem fldD_ne (x : D) (f : Str) : ∀ c, fldD x f ≠ .exc c := by
  unfold fldD
  split
  · exact someR_ne _
  · exact ne_bad
theorem fldD_ok {x z : D} {f : Str} (h : fldD x f = .ok z) : ∃ c fs, x = .obj c fs ∧ ((fldN c).zip fs).lookup f = some z := by
  cases x with
  | obj c fs => exact ⟨c, fs, rfl, someR_ok h⟩
  | _ => cases h
theorem fld_get {K : PySem.W.Frag} {G : Hp} {f : Str} {z : D} : ∀ {kvs : List (Str × V)} {ns : List Str} {ds : List D}, kvs.map (·.1) = ns → RpL K G (kvs.map (·.2)) ds → (ns.zip ds).lookup f = some z → f ∈ ns ∧ ∃ v, kvs.lookup f = some v ∧ Rp K G v z
  | [], ns, ds, hn, r, h => by
    subst hn
    simp at h
  | (g, v) :: kvs, ns, ds, hn, r, h => by
    subst hn
    rw [List.map_cons] at r
    cases r with
    | @cons _ _ d ds r t =>
      simp only [List.map_cons, List.zip_cons_cons, List.lookup_cons] at h ⊢
      by_cases e : f = g
      · have hb : (f == g) = true := beq_iff_eq.mpr e
        rw [hb] at h ⊢
        cases h
        exact ⟨by rw [e]; exact List.mem_cons_self, v, rfl, r⟩
      · have hb : (f == g) = false := beq_eq_false_iff_ne.mpr e
        rw [hb] at h ⊢
        obtain ⟨k1, k2⟩ := fld_get (kvs := kvs) rfl t h
        exact ⟨List.mem_cons_of_mem _ k1, k2⟩
theorem lookup_none {m : Str} : ∀ {kvs : List (Str × V)}, m ∉ kvs.map (·.1) → kvs.lookup m = none
  | [], _ => rfl
  | (g, v) :: kvs, h => by
    rw [List.map_cons, List.mem_cons, not_or] at h
    rw [List.lookup_cons, beq_eq_false_iff_ne.mpr h.1]
    exact lookup_none h.2
/-- a method call as the model walks it, whatever object stands ahead -/
theorem mcall {prog : Program} {w : World} {A : Around} {E : Value → Shared → Prop} {s : Shared} {env : PySem.Env} {o : Expr} {name : Str} {apos pos : Pos} {args : List Expr} {Q : Value → Shared → Prop}
    (hbase : attributeBase o name env (eval o env) = eval o env) (hfew : methodCallForm args.length (backTo pos (starEach args env)) [] = true) (hline : (apos.endLine == pos.line) = true)
    (h : wpAny (model prog w) A (eval o env) (fun ov s₁ => ∀ pl, wpAny (model prog w) A (getMethod ov name pl) (fun fx s₂ => wpAny (model prog w) A (callWith pos fx.1 fx.2 (backTo pos (starEach args env)) []) Q E s₂) E s₁) E s) :
    wpAny (model prog w) A (eval (.Call (.Attribute o name apos) args [] pos) env) Q E s := by
  rw [arm_eval_Call, hbase]
  refine wpAny_bind (wpAny_mono h (fun ov s₁ h₁ => wpAny_bind (wpAny_standAt ?_)) fun _ _ e => e)
  have hp : methodCallPos true o env apos pos = pure pos := by
    unfold methodCallPos
    rw [hline]
    rfl
  have hf : methodCallForm (args.length + ([] : List Keyword).length) (backTo pos (starEach args env)) (backToKw pos (keywordEach [] env)) = true := hfew
  show wpAny _ _ (methodCall o name apos pos env ov (args.length + ([] : List Keyword).length) (backTo pos (starEach args env)) (backToKw pos (keywordEach [] env))) _ _ s₁
  unfold methodCall
  rw [hf]
  refine wpAny_bind (wpAny_holding (wpAny_mono (h₁ _) (fun fx s₂ h₂ => ?_) fun _ _ e => e))
  exact wpAny_bind (by rw [hp]; exact wpAny_pure h₂)
section
variable {T : Tbl} {fn : Nat → List D → R D} {W : WX} {cls : Nat → Value} {d : Bool} {sc : Scope} {X : Cx}
theorem snd_fld (C : Ctx T fn W cls d sc X) {a : Ex} {f : Str} {l : Expr} {p : Pos} (hb : abB l = true) (ha : Snd T fn W cls X a l) : Snd T fn W cls X (.fld a f) (.Attribute l f p) := by
  refine .of (pe_imp (pe_fld ha.pe (ab_ok hb)) fun σ H Q h => ?_) (fun _ => rfl) rfl
  obtain ⟨G, ρ, F, h⟩ := h
  refine seqE F (show Want W cls X.K .S ((ev fn a ρ).bind fun x => fldD x f) G H σ Q from h) fun z1 v1 H1 G1 _ t1 F1 p1 h1 => ?_
  obtain ⟨z, hz, q⟩ := want_pure (fldD_ne z1 f) h1
  obtain ⟨c, fs, rfl, hl⟩ := fldD_ok hz
  obtain ⟨b, C', dx, kvs, rfl, hc, hg, hn, r⟩ := p1.toB.obj
  have k := C.objs c C' hc
  obtain ⟨hm, v, hv, rv⟩ := fld_get hn r hl
  exact ⟨b, C', dx, kvs, v, rfl, F1.sub _ _ hg, k.cl, k.na f hm, hv, q _ _ _ (Stp.refl F1.ok) rv⟩
theorem want_obj {k : Kd} {f : Nat → R D} {G H : Hp} {σ : L2.St} {Q : VK} {z : D} (h : Want W cls X.K k ((objC z).bind f) G H σ Q) : ∃ c fs, z = .obj c fs ∧ Want W cls X.K k (f c) G H σ Q := by
  cases z with
  | obj c fs => exact ⟨c, fs, rfl, h⟩
  | _ => exact h.elim
theorem snd_isc (C : Ctx T fn W cls d sc X) {a : Ex} {c : Nat} {l : Expr} {p p2 p3 : Pos} (h1 : blt T sc "isinstance" = true) (h2 : glB sc (clsNm c) = true) (h3 : nmB (clsNm c) = true) (h4 : c ∈ T.isc) (ha : Snd T fn W cls X a l) (hl : plE l = true) :
    Snd T fn W cls X (.isc a c) (.Call (.Name "isinstance" p) [l, .Name (clsNm c) p3] [] p2) := by
  obtain ⟨g1, g2, g3, g4⟩ := blt_ok C h1
  obtain ⟨n1, n2, n3⟩ := nmB_ok h3
  obtain ⟨Y, hY, hk⟩ := C.iscs c h4
  have hty : PE X (.Name (clsNm c) p3) (tC (.ref Y)) := pe_glob (glB_ok h2 C.hs) hY (v := .ref Y) rfl n1
  refine .of (pe_imp (pe_callB call_isi g1 g2 (by decide +kernel) (pa_cons ha.pe (pa_cons hty pa_nil) (plE_star hl)) g3 g4 (plE_star hl) rfl) fun σ H Q h => ?_) (fun _ => rfl) rfl
  obtain ⟨G, ρ, F, h⟩ := h
  refine seqE F (show Want W cls X.K .S ((ev fn a ρ).bind fun x => (objC x).bind fun k => .ok (.bl (subC k c))) G H σ Q from h) fun z1 v1 H1 G1 _ t1 F1 p1 h1 => ?_
  obtain ⟨k, fs, rfl, h1⟩ := want_obj h1
  obtain ⟨b, C', dx, kvs, rfl, hc, hg, hn, r⟩ := p1.toB.obj
  have o := C.objs k C' hc
  exact ⟨.ref b, .ref Y, .ref C', .ref Y, subC k c, rfl, .own _, .base (.ins (F1.sub _ _ hg) o.cl o.ha o.hn o.ht o.hm), hk k C' hc, want_ok (v := .bl _) F1.ok h1 (Rp.bl _)⟩
theorem few_of {l : List Expr} {env : PySem.Env} {p : Pos} (hp : ∀ e ∈ l, plE e = true) (hl : l.length ≤ 20) : methodCallForm l.length (backTo p (starEach l env)) [] = true := by
  have h := any_back (pos := p) (env := env) hp
  unfold methodCallForm
  rw [Bool.and_eq_true, Bool.and_eq_true]
  refine ⟨⟨?_, rfl⟩, ?_⟩
  · rw [List.all_eq_true]
    intro x hx
    have := List.any_eq_false.mp h x hx
    simpa using this
  · show decide (l.length + 0 < 30) = true
    rw [decide_eq_true_eq]; omega
/-- what follows a method's arguments -/
theorem met_go {fa : Addr} {e : Expr} {es : List Expr} {p2 : Pos} {a : Addr} {pins : List (Addr × Obj)} {s : Shared} {σ : L2.St} {H : Hp} {Q : VK} {ta : TA} (I : Inv X pins σ H s) (hk : PySem.W.keepIn X.K (.ref fa) = true) (ha : PA X (e :: es) ta) (hp : ∀ x ∈ e :: es, plE x = true)
    (h : ta σ H fun vs H2 => ∀ s2 us, Inv X pins σ H2 s2 → Vals vs us → wpAny (model X.prog X.w) X.A (call (.ref fa) (.ref a :: us)) (EP X pins σ Q) X.xe s2) :
    wpAny (model X.prog X.w) X.A (callWith p2 (.ref fa) [.ref a] (backTo p2 (starEach (e :: es) X.env)) []) (EP X pins σ Q) X.xe s := by
  have hst := plE_star (es := es) (env := X.env) (hp e (by simp))
  have hpl : (backTo p2 (starEach es X.env)).any (·.1) = false := any_back fun e he => hp e (List.mem_cons_of_mem _ he)
  exact PySem.W.callWith_K (first := [.ref a]) (h₀ := X.base) I.ok.mod.kin hk (thn (ha.run p2 pins s σ H _ I h) fun us s2 ⟨vs, H2, I2, r, q2⟩ => ⟨I2.kIn, q2 s2 us I2 r⟩) hst hpl
theorem isS_eq {x : Ex} (h : isS T x = true) : kd T x = .S := by
  unfold isS at h
  split at h
  · assumption
  · cases h
theorem want_guard {k : Kd} {b : Bool} {r : R D} {G H : Hp} {σ : L2.St} {Q : VK} (h : Want W cls X.K k (.guard b r) G H σ Q) : b = true ∧ Want W cls X.K k r G H σ Q := by
  cases b with
  | true => exact ⟨rfl, h⟩
  | false => exact h.elim
theorem want_met {b : Bool} {m n : Nat} {fr : Bool} {a : Ex} {es : Exs} (h : T.mf.lookup m = some (n, fr)) : kd T (.meth b m a es) = if b then .S else if fr then .T else .S := by
  cases b with
  | true => rfl
  | false =>
    show (match T.mf.lookup m with | some (_, true) => Kd.T | _ => Kd.S) = _
    rw [h]
    cases fr <;> rfl
/-- what a method is asked, by data: its arguments shared or lent -/
theorem sp_met {b fr : Bool} {g : List D → R D} {n : Nat} {G H : Hp} {σ : L2.St} {x : V} {vs : List V} {z : D} {zs : List D} {Q : VK} (ok : Ok2 G H) (px : Rp X.K G x z) (p1 : if !b then RpL X.K G vs zs else PBL X.K G H vs zs) (hl : vs.length + 1 = n)
    (h : Want W cls X.K (if b then .S else if fr then .T else .S) (if b then (g (z :: zs)).bind fun z => .guard z.flat (.ok z) else g (z :: zs)) G H σ Q) : spD X.K cls n fr g (x :: vs) H Q (fun e d H' => W e d σ H') := by
  refine ⟨hl, ?_⟩
  cases b with
  | false =>
    have p1 : RpL X.K G vs zs := p1
    refine ⟨G, z :: zs, ok, .cons px p1, ?_⟩
    have h : Want W cls X.K (if fr then .T else .S) (g (z :: zs)) G H σ Q := h
    cases e2 : g (z :: zs) with
    | ok z => rw [e2] at h; exact h
    | exc c => rw [e2] at h; exact h
    | bad => rw [e2] at h; exact h
  | true =>
    have p1 : PBL X.K G H vs zs := p1
    have okH : Ok2 H H := ⟨Same.refl _, fun a o e n => by rw [e] at n; cases n⟩
    refine ⟨H, z :: zs, okH, .cons (px.mono ok.s) (p1.rd ok.s), ?_⟩
    have h : Want W cls X.K .S ((g (z :: zs)).bind fun z => .guard z.flat (.ok z)) G H σ Q := h
    cases e2 : g (z :: zs) with
    | exc c =>
      rw [e2] at h
      intro H2 G2 t2
      exact h H2 _ (mask_stp (K := X.K) ok t2).1
    | bad => rw [e2] at h; exact h
    | ok z =>
      rw [e2] at h
      obtain ⟨z', hz, q⟩ := want_pure (ne_guard ne_ok) h
      obtain ⟨g1, g2⟩ := guard_ok hz
      cases g2
      intro v H2 G2 t2 pk
      obtain ⟨G3, t3, r3⟩ := pk.toS (by cases fr <;> exact fun q => nomatch q) t2
      obtain ⟨t4, hs⟩ := mask_stp (K := X.K) ok t3
      exact q v H2 _ t4 (flat_mask hs r3 g1)
theorem snd_meth (C : Ctx T fn W cls d sc X) {b : Bool} {m n : Nat} {fr : Bool} {a : Ex} {es : Exs} {o : Expr} {l : List Expr} {ap cp : Pos} (hf : T.mf.lookup m = some (n, fr)) (hl : l.length + 1 = n) (h20 : l.length ≤ 20) (h2 : (ap.endLine == cp.line) = true)
    (hb : abB o = true) (hs : isS T a = true) (ho : Snd T fn W cls X a o) (hm : mEs T (!b) es sc l = true) (ha : PA X l (tL T fn W cls X.K (!b) es)) : Snd T fn W cls X (.meth b m a es) (.Call (.Attribute o (mNm m) ap) l [] cp) := by
  have hp := mEs_pl hm
  refine .of ⟨fun pins s σ H Q I h => mcall (ab_ok hb) (few_of hp h20) h2 ?_⟩ (fun _ => rfl) rfl
  obtain ⟨G, ρ, F, h⟩ := h
  rw [want_met hf] at h
  have go : tE T fn W cls X.K a σ H fun v H1 => ∃ a C' dx kvs fa, v = .ref a ∧ H1 a = some (.ins C' dx kvs) ∧ Cls X.K C' ∧ Meth X.K C' (mNm m) fa ∧ kvs.lookup (mNm m) = none ∧
      ∀ s1, Inv X pins σ H1 s1 → wpAny (model X.prog X.w) X.A (callWith cp (.ref fa) [.ref a] (backTo cp (starEach l X.env)) []) (EP X pins σ Q) X.xe s1 := by
    refine seqE F (show Want W cls X.K (if b then .S else if fr then .T else .S) ((ev fn a ρ).bind fun x => (objC x).bind fun c => .guard (mcl m c) <| (evs fn es ρ).bind fun ys => if b then (fn (mid c m) (x :: ys)).bind fun z => .guard z.flat (.ok z) else fn (mid c m) (x :: ys)) G H σ Q from h) fun z1 v1 H1 G1 _ t1 F1 p1 h1 => ?_
    rw [isS_eq hs] at p1
    have p1 : Rp X.K G1 v1 z1 := p1
    obtain ⟨c, fs, rfl, h1⟩ := want_obj h1
    obtain ⟨x, C', dx, kvs, rfl, hc, hg, hn, r⟩ := (PB.obj (X := X) (G := G1) (H := H1) (.inl p1))
    have oc := C.objs c C' hc
    obtain ⟨hmc, h1⟩ := want_guard h1
    · have M := C.mets m n fr hf c C' hmc hc
      obtain ⟨fa, fd, ps, k, hF, hr, hM, hbd⟩ := M.ex
      refine ⟨x, C', dx, kvs, fa, rfl, F1.sub _ _ hg, oc.cl, hM, lookup_none (by rw [hn]; exact M.nf), fun s1 I1 => ?_⟩
      cases l with
      | nil =>
        have he : evs fn es ρ = .ok [] := by
          cases es with
          | nil => rfl
          | cons _ _ => cases hm
        rw [he] at h1
        exact PySem.W.callWith_K0 (first := [.ref x]) I1.kIn hM.kp (run_fnS (us := [.ref x]) (vs := [.ref x]) (E := fun σ => WE W σ) hF hr hbd (passAt C.tk σ) I1 (.cons rfl .nil) (sp_met (vs := []) (zs := []) F1.ok p1 (by cases b <;> exact .nil) hl h1))
      | cons e es' =>
        refine met_go I1 hM.kp ha hp (seqL F1 h1 fun zs vs H2 G2 e2 t2 F2 p2 h2 => fun s2 us I2 r2 => ?_)
        have hlen : vs.length + 1 = n := by
          rw [← hl]
          have k1 := evs_len hm e2
          have k2 : vs.length = zs.length := by
            cases b with
            | false => exact (show RpL X.K G2 vs zs from p2).len
            | true => exact (show PBL X.K G2 H2 vs zs from p2).len
          rw [k2, k1]
        have q := sp_met (fr := fr) (n := n) F2.ok (p1.mono t2.g) p2 hlen h2
        exact run_fnS (us := .ref x :: us) (vs := .ref x :: vs) (E := fun σ => WE W σ) hF hr hbd (passAt C.tk σ) I2 (.cons rfl r2) q
  refine thn (ho.pe.run pins s σ H _ I go) fun u s1 ⟨v, H1, I1, rv, x, C', dx, kvs, fa, ev', hx, cl, hM, hlk, q⟩ => fun pl => ?_
  subst ev'
  obtain rfl : u = Value.ref x := rv
  exact getmeth_ok I1 hx cl hM hlk (q s1 I1)
/-- a class called: the instance and its dict are laid, __init__ keeps its promise -/
theorem make_in {pins : List (Addr × Obj)} {s : Shared} {σ : L2.St} {H : Hp} {Q : VK} {C fa : Addr} {fd : FuncData} {ps : List Str} {sp : Sp} {k : Nat} {E : XK} {us : List Value} {vs : List V} (M : Mk X.K C fa) (F : FnOk X.prog X.w X.K X.mg X.base (L2.CX X.prog X.w) k fa fd ps sp)
    (hr : Room (k + 1) X.A) (hb : Binds X.K fd ps []) (hx : PassesAt (L2.CX X.prog X.w) X σ E) (I : Inv X pins σ H s) (r : Vals vs us)
    (h : ∀ x dx, H x = none → H dx = none → dx ≠ x → sp (.ref x :: vs) (L2.upd (L2.upd H dx (.own x)) x (.ins C dx [])) (fun v H2 => v = .non ∧ Q (.ref x) H2) E) :
    wpAny (model X.prog X.w) X.A (call (.ref C) us) (EP X pins σ Q) X.xe s := by
  have f0 : H s.heap.objs.size = none := I.hok.fresh (Nat.le_refl _)
  have f1 : H (s.heap.objs.size + 1) = none := I.hok.fresh (Nat.le_succ _)
  have J := Inv.made (C := C) I
  have want := h (s.heap.objs.size + 1) s.heap.objs.size f1 f0 (Nat.ne_of_lt (Nat.lt_succ_self _))
  have rv : Vals (V.ref (s.heap.objs.size + 1) :: vs) (Value.ref (s.heap.objs.size + 1) :: us) := .cons rfl r
  have bind := hb _ (Value.ref (s.heap.objs.size + 1) :: us) J.kIn (by rw [List.append_nil, ← rv.length]; exact F.len _ _ _ _ want)
  rw [List.append_nil] at bind
  have run := F.run _ X.stack _ _ _ _ _ _ E (hr.make C us []) (J.env0.make C us []) bind rv want
  refine wpAny_call (make_map (f := fa) I.kIn M.makes M.init (beq_iff_eq.mp M.fn) (codeAny_mono run fun z s' e => ?_))
  match z, e with
  | .error x, e => exact hx pins _ _ x s' J e
  | .ok (.ret u), e =>
    obtain ⟨v, H2, I2, r2, rfl, q⟩ := J.after e
    exact ⟨r2, .ref _, H2, I2, rfl, q⟩
  | .ok .next, e => exact e.elim
  | .ok .brk, e => exact e.elim
  | .ok .cont, e => exact e.elim
theorem stp_made {G H : Hp} {x dx C : Addr} (ok : Ok2 G H) (hx : H x = none) (hd : H dx = none) (ne : dx ≠ x) : Stp G H G (L2.upd (L2.upd H dx (.own x)) x (.ins C dx [])) := by
  have t1 : Stp G H G (L2.upd H dx (.own x)) := Stp.newO ok hd trivial
  exact t1.trans (Stp.newO t1.o (by rw [upd_ne (Ne.symm ne)]; exact hx) trivial)
/-- what __init__ is asked, by data -/
theorem sp_make {g : List D → R D} {b : Bool} {c : Nat} {C : Addr} {n : Nat} {G H : Hp} {σ : L2.St} {vs : List V} {zs : List D} {Q : VK} (hc : clsAt X.K c = some C) (ok : Ok2 G H) (p1 : if b then ∃ a o d, vs = [.ref a] ∧ zs = [d] ∧ H a = some o ∧ G a = none ∧ RpO X.K G o d else RpL X.K G vs zs) (hl : vs.length = n) (hg : ∀ z, g zs = .ok z → ∃ fs, z = .obj c fs)
    (h : Want W cls X.K .S (g zs) G H σ Q) (x dx : Addr) (hx : H x = none) (hd : H dx = none) (ne : dx ≠ x) :
    spI X.K cls b c C n g (.ref x :: vs) (L2.upd (L2.upd H dx (.own x)) x (.ins C dx [])) (fun v H2 => v = .non ∧ Q (.ref x) H2) (fun e d H' => W e d σ H') := by
  have t0 := stp_made (C := C) ok hx hd ne
  have gx : G x = none := ok.s.free hx
  have hX : (L2.upd (L2.upd H dx (.own x)) x (.ins C dx [])) x = some (.ins C dx []) := upd_same
  refine ⟨by rw [List.length_cons, hl], x, dx, vs, G, zs, rfl, hX, gx, t0.o, ?_, ?_⟩
  · cases b with
    | false => exact p1
    | true =>
      obtain ⟨a, o, d, e1, e2, ho, hg, r⟩ := p1
      exact ⟨a, o, d, e1, e2, t0.h _ _ ho, hg, (fun e => by rw [e, hx] at ho; exact nomatch ho), r⟩
  cases e : g zs with
  | bad => rw [e] at h; exact h
  | exc k => rw [e] at h; exact fun H' G' t => h H' G' (t0.trans t)
  | ok z =>
    rw [e] at h
    obtain ⟨fs, rfl⟩ := hg z e
    refine ⟨fs, rfl, fun H1 G1 kvs t hn r => ⟨rfl, ?_⟩⟩
    have g1 : G1 x = none := t.k _ _ hX gx
    refine h (.ref x) _ _ ((t0.trans t).keep hx g1) ?_
    exact .obj hc upd_same hn (r.mono (same_upd g1))
theorem snd_make (Cx : Ctx T fn W cls d sc X) {c : Nat} {es : Exs} {x : Str} {n : Nat} {l : List Expr} {p p2 : Pos} (hf : T.mks.lookup c = some (x, n, false)) (hl : l.length = n) (h1 : glB sc x = true) (h2 : nmB x = true) (hm : mEs T true es sc l = true)
    (ha : PA X l (tL T fn W cls X.K true es)) : Snd T fn W cls X (.make c es) (.Call (.Name x p) l [] p2) := by
  obtain ⟨n1, n2, n3⟩ := nmB_ok h2
  obtain ⟨C, fa, fd, ps, k, hF, hr, hc, hg, M, hb, ho⟩ := (Cx.mks c x n false hf).ex
  have hp := mEs_pl hm
  refine .of ⟨fun pins s σ H Q I h => wpAny_Call_Name_kw (ld_glob I (glB_ok h1 Cx.hs) hg ?_ n1)⟩ (fun _ => rfl) rfl
  obtain ⟨G, ρ, F, h⟩ := h
  have h : Want W cls X.K .S ((evs fn es ρ).bind fun ys => fn (iid c) ys) G H σ Q := h
  cases l with
  | nil =>
    have he : evs fn es ρ = .ok [] := by
      cases es with
      | nil => rfl
      | cons _ _ => cases hm
    rw [he] at h
    exact PySem.W.callWith_K0 (first := []) I.kIn M.kp (make_in (us := []) (vs := []) M hF hr hb (passAt Cx.tk σ) I .nil (sp_make (b := false) hc F.ok (show RpL X.K G [] [] from .nil) hl (fun z e => ho _ z e) h))
  | cons e es' =>
    have hst := plE_star (es := es') (env := X.env) (hp e (by simp))
    have hpl : (backTo p2 (starEach es' X.env)).any (·.1) = false := any_back fun e he => hp e (List.mem_cons_of_mem _ he)
    refine PySem.W.callWith_K (first := []) (h₀ := X.base) I.ok.mod.kin M.kp (thn (ha.run p2 pins s σ H (fun vs H2 => ∀ s2 us, Inv X pins σ H2 s2 → Vals vs us → wpAny (model X.prog X.w) X.A (call (.ref C) us) (EP X pins σ Q) X.xe s2) I
      (seqL F h fun zs vs H2 G2 e2 t2 F2 p1 h2 => fun s2 us I2 r2 => ?_)) fun us s2 ⟨vs, H2, I2, r, q2⟩ => ⟨I2.kIn, q2 s2 us I2 r⟩) hst hpl
    have p1 : RpL X.K G2 vs zs := p1
    exact make_in M hF hr hb (passAt Cx.tk σ) I2 r2 (sp_make (b := false) hc F2.ok p1 (by rw [p1.len, evs_len hm e2]; exact hl) (fun z e => ho _ z e) h2)
/-- .. of one own thing, lent -/
theorem snd_makeB (Cx : Ctx T fn W cls d sc X) {c i : Nat} {x y : Str} {p q p2 : Pos} (hf : T.mks.lookup c = some (x, 1, true)) (h1 : glB sc x = true) (h2 : nmB x = true) (hs : seeB T sc i y = true) (hi : T.isOwn i = true) : Snd T fn W cls X (.makeB c i) (.Call (.Name x p) [.Name y q] [] p2) := by
  obtain ⟨n1, n2, n3⟩ := nmB_ok h2
  obtain ⟨C, fa, fd, ps, k, hF, hr, hc, hg, M, hb, hob⟩ := (Cx.mks c x 1 true hf).ex
  unfold seeB at hs
  rw [Bool.and_eq_true, Bool.and_eq_true, decide_eq_true_eq] at hs
  obtain ⟨m1, m2, m3⟩ := nmB_ok hs.2
  have pv : PE X (.Name y q) (tVar i) := pe_var (by rw [Cx.hN]; exact hs.1.1) (by rw [Cx.hs]; exact visB_ok hs.1.2) m1 m2
  refine .of ⟨fun pins s σ H Q I h => wpAny_Call_Name_kw (ld_glob I (glB_ok h1 Cx.hs) hg ?_ n1)⟩ (fun _ => rfl) rfl
  obtain ⟨G, ρ, F, h⟩ := h
  have h : Want W cls X.K .S ((getV ρ i).bind fun d => fn (iid c) [d]) G H σ Q := h
  unfold getV at h
  split at h
  · rename_i z e1
    have h : Want W cls X.K .S (fn (iid c) [z]) G H σ Q := h
    obtain ⟨a, o, e2, ha, hga, ro⟩ := F.ow i z hi e1
    refine PySem.W.callWith_K (first := []) (h₀ := X.base) I.ok.mod.kin M.kp (thn ((pa_cons pv pa_nil (plE_star rfl)).run p2 pins s σ H (fun vs H2 => ∀ s2 us, Inv X pins σ H2 s2 → Vals vs us → wpAny (model X.prog X.w) X.A (call (.ref C) us) (EP X pins σ Q) X.xe s2) I
      ⟨_, e2, fun s2 us I2 r2 => make_in M hF hr hb (passAt Cx.tk σ) I2 r2 (sp_make (b := true) hc F.ok ⟨a, o, z, rfl, rfl, ha, hga, ro⟩ rfl (fun z e => hob _ z e) h)⟩) fun us s2 ⟨vs, H2, I2, r, q2⟩ => ⟨I2.kIn, q2 s2 us I2 r⟩) (plE_star rfl) rfl
  · exact h.elim
theorem boot_dict : bootBuiltins "dict" = some (.type "dict") := by decide +kernel
theorem snd_dcp (C : Ctx T fn W cls d sc X) {a : Ex} {l : Expr} {p p2 : Pos} (hb : blt T sc "dict" = true) (ha : Snd T fn W cls X a l) (hl : plE l = true) : Snd T fn W cls X (.dcp a) (.Call (.Name "dict" p) [l] [] p2) := by
  obtain ⟨g1, g2, g3, g4⟩ := blt_ok C hb
  have cr : CallR X (.type "dict") (fun xs H Q => ∃ a kvs, xs = [.ref a] ∧ Rd H a (.dK kvs) ∧ ∀ p, H p = none → Q (.ref p) (L2.upd H p (.dK kvs))) := by
    intro pins s σ H xs us Q I rv h
    obtain ⟨a, kvs, rfl, hr, q⟩ := h
    obtain ⟨u, rfl, ru⟩ := vals1 rv
    obtain rfl : u = Value.ref a := ru
    exact d_copyOf I hr fun p s' hp I' => ⟨.ref p, _, I', rfl, q p hp⟩
  refine .of (pe_imp (pe_callTy cr g1 g2 boot_dict (pa_cons ha.pe pa_nil (plE_star hl)) g3 g4 (plE_star hl) rfl) fun σ H Q h => ?_) (fun _ => rfl) rfl
  obtain ⟨G, ρ, F, h⟩ := h
  have h : Want W cls X.K .T ((ev fn a ρ).bind fun x => asDct' x) G H σ Q := h
  refine seqE F h fun z1 v1 H1 G1 _ t1 F1 p1 h1 => ?_
  cases z1 with
  | dct f ks ds =>
    obtain ⟨b, kvs, rfl, hr, rfl, r⟩ := p1.toB.dct F1.sub
    exact ⟨b, kvs, rfl, hr, newT F1.ok (o := .dK kvs) trivial (fun v H' G' t r => h1 v H' G' t r) (.dct r)⟩
  | _ => exact h1.elim
end
end Den
namespace Den
open PySem PySem.Spec PyProof.Rows L2
theorem strs_len : ∀ {vs : List Value} {ss : List Str}, StrsAre vs ss → vs.length = ss.length
  | _, _, .nil => rfl
  | _, _, .cons _ _ h => by rw [List.length_cons, List.length_cons, strs_len h]
theorem strs_at : ∀ {vs : List Value} {ss : List Str}, StrsAre vs ss → ∀ (i : Nat) (v : Value), vs[i]? = some v → ∃ k t, ss[i]? = some k ∧ v = .str k t
  | _, _, .nil, i, v, h => by simp at h
  | _, _, .cons y t h, 0, v, e => by simp at e; exact ⟨y, t, rfl, e.symm⟩
  | _, _, .cons y t h, i + 1, v, e => by
    obtain ⟨k, u, h1, h2⟩ := strs_at h i v (by simpa using e)
    exact ⟨k, u, by simpa using h1, h2⟩
theorem nodup_le {α : Type} [DecidableEq α] : ∀ {l m : List α}, l.Nodup → (∀ x ∈ l, x ∈ m) → l.length ≤ m.length
  | [], m, _, _ => Nat.zero_le _
  | x :: l, m, nd, h => by
    rw [List.nodup_cons] at nd
    have hx : x ∈ m := h x List.mem_cons_self
    have := nodup_le (m := m.erase x) nd.2 fun y hy => (List.mem_erase_of_ne (fun e => nd.1 (by rw [← e]; exact hy))).mpr (h y (List.mem_cons_of_mem _ hy))
    rw [List.length_erase_of_mem hx] at this
    have := List.length_pos_of_mem hx
    rw [List.length_cons]; omega
/-- the set of these texts at a -/
def TxAt (P : Program) (w : World) (h : Heap) (a : Addr) (ns : List Str) : Prop := ∃ D l, h.get? a = some (Froz.sObj "set" D) ∧ Froz.TxOk P w D l ∧ l.Nodup ∧ (∀ k, k ∈ l ↔ k ∈ ns) ∧ Ris D.2.2.place.toList ∧ (w.params.followText "set-order" = true ∨ D.2.2.led = true)
theorem TxAt.at {P : Program} {w : World} {h h' : Heap} {a : Addr} {ns : List Str} (R : TxAt P w h a ns) (k : ∀ o, h.get? a = some o → h'.get? a = some o) : TxAt P w h' a ns := by
  obtain ⟨D, l, ho, r⟩ := R
  exact ⟨D, l, k _ ho, r⟩
theorem txAt_new {P : Program} {w : World} {h : Heap} {a : Addr} (ho : h.get? a = some { cls := .type "set", dict := none, data := .set #[] 0 (.fresh 0 0 (!w.params.followText "set-order")) }) : TxAt P w h a [] :=
  ⟨(#[], 0, .fresh 0 0 (!w.params.followText "set-order")), [], ho, Froz.TxOk.nil rfl, List.nodup_nil, fun _ => Iff.rfl, List.Pairwise.nil, by
    show _ ∨ (!w.params.followText "set-order") = true
    cases w.params.followText "set-order"
    · exact .inr rfl
    · exact .inl rfl⟩
theorem tail_ris {ep : Nat} {es1 : Array (Int × Value)} {t2 : SetTable} {b : Bool} (h : Ris t2.place.toList) : Ris (Froz.tailTx ep es1 t2 b).2.2.place.toList := by
  unfold Froz.tailTx
  split
  · exact relayAll_ris t2 es1 _
  · exact h
theorem tail_led {ep : Nat} {es1 : Array (Int × Value)} {t2 : SetTable} {b : Bool} (h : t2.led = true) : (Froz.tailTx ep es1 t2 b).2.2.led = true := by
  unfold Froz.tailTx
  split
  · rw [show (relayAll t2 es1 (SetTable.grown es1.size)).2.1.led = t2.led from relayAll_led t2 es1 _]; exact h
  · exact h
theorem add_ris {h : Int} {v : Value} {D : Froz.SD} (r : Ris D.2.2.place.toList) : Ris (Froz.addTx h v D).2.2.place.toList := by
  unfold Froz.addTx
  refine tail_ris ?_
  have := layNew_ris D.2.2 D.1 h v r
  split <;> exact this
theorem add_led {h : Int} {v : Value} {D : Froz.SD} (r : D.2.2.led = true) : (Froz.addTx h v D).2.2.led = true := by
  unfold Froz.addTx
  refine tail_led ?_
  have := layNew_led D.2.2 D.1 h v
  split <;> (show (layNew D.2.2 D.1 h v).2.1.led = true; rw [this]; exact r)
section
variable {P : Program} {w : World} {A : Around} {E : Value → Shared → Prop} {s : Shared}
theorem txAt_add {a : Addr} {ns : List Str} {k : Str} {u : Tok} {Q : Bool → Shared → Prop} (R : TxAt P w s.heap a ns) (hb : ns.length + 1 < scanBound)
    (hQ : ∀ b h', Heap.SameBut a s.heap h' → TxAt P w h' a (ns ++ [k]) → Q b { s with heap := h' }) : wpAny (model P w) A (setAddHashed a (.str k u) (hashStr w k)) Q E s := by
  obtain ⟨D, l, ho, F, nd, hm, hr, hl⟩ := R
  have hlen : l.length ≤ ns.length := nodup_le nd fun x hx => (hm x).mp hx
  by_cases hk : k ∈ l
  · obtain ⟨es, ep, t⟩ := D
    have hd : (Froz.sObj "set" (es, ep, t)).data = .set es ep t := rfl
    have hel : ElemsOf (strKind P w) es.toList := F.el
    have hsz : es.size = l.length := F.sz
    have hkey : (strKind P w).is k (.str k u) = true := Froz.is_str k u
    unfold setAddHashed setAddHashedIn
    refine wpAny_holding (wpAny_bind (wpAny_setState_of ho hd F.fit ?_))
    dsimp only
    rw [byScan_of rfl (by omega) hel]
    simp only [↓reduceIte]
    unfold setAddByScan
    refine wpAny_bind (wpAny_bind (wpAny_rule (wpAny_bind (wpAny_setScan_of hkey ho hd F.fit hel ?_))))
    cases hfi : List.findIdx? (fun e => (strKind P w).is k e.2) es.toList with
    | none =>
      obtain ⟨e, he, q⟩ := (F.mem k).mp hk
      have := List.findIdx?_eq_none_iff.mp hfi e he
      rw [q] at this
      cases this
    | some j =>
      refine wpAny_pure (wpAny_pure (hQ _ s.heap (Heap.SameBut.refl a s.heap) ⟨(es, ep, t), l, ho, F, nd, fun x => ?_, hr, hl⟩))
      rw [List.mem_append, List.mem_singleton, ← hm x]
      exact ⟨.inl, fun z => z.elim id fun e => e ▸ hk⟩
  · refine Froz.add_x ho F hk (by omega) (hQ _ _ (Heap.SameBut.update s.heap a _) ⟨_, k :: l, Froz.get_upd _ ho rfl, Froz.add_ok u F, List.nodup_cons.mpr ⟨hk, nd⟩, fun x => ?_, add_ris hr, hl.imp id add_led⟩)
    rw [List.mem_append, List.mem_singleton, List.mem_cons, hm x]
    exact Or.comm
/-- the loop over the items -/
theorem set_update_txt {I : Addr} {fp wr : List Addr} {G : Array GenState → Array GenState → Prop} {n : Nat} {Pv : Nat → Value → Prop} {St : Nat → Shared → Prop} {R : Result → Shared → Prop}
    (W : WalksS P w A.in1 I fp wr G n Pv St) (S : Addr) (hSf : S ∉ fp) (ns : List Str) (hn : n = ns.length) (hb : ns.length + 1 < scanBound) (hval : ∀ i v, Pv i v → ∃ k t, ns[i]? = some k ∧ v = .str k t) :
    ∀ (k i : Nat) (s : Shared), n - i = k → i ≤ n → St i s → TxAt P w s.heap S (ns.take i) → (∀ s', Moved (S :: wr) G s s' → TxAt P w s'.heap S ns → R (.ok (.ret .none)) s') →
      codeAny (model P w) A (.builtin "set.update.loop" ⟨[.ref S, .ref I], []⟩) R s := by
  have hSw : S ∉ wr := fun h => hSf (W.sub _ h)
  have hsub : ∀ b ∈ wr, b ∈ S :: wr := fun b hb => List.mem_cons_of_mem _ hb
  intro k
  induction k with
  | zero =>
    intro i s hk' hi hst hS hR
    obtain rfl : i = n := by omega
    refine codeAny_builtin PyProof.Rows.F.entry_set_update_loop ?_
    rw [Around.under_plainId PyProof.Rows.F.plain_set_update_loop _]
    show wpAny _ A.in1 (pyNext (.ref I) >>= _) _ _ s
    refine wpAny_bind (W.done s _ _ hst fun s' hm => ?_)
    show wpAny _ A.in1 (ret Value.none) _ _ s'
    rw [List.take_of_length_le (by omega)] at hS
    exact wpAny_pure (hR s' (hm.mono hsub) (hS.at fun o e => hm.heap S o hSw e))
  | succ k ih =>
    intro i s hk' hi hst hS hR
    have hlt : i < n := by omega
    refine codeAny_builtin PyProof.Rows.F.entry_set_update_loop ?_
    rw [Around.under_plainId PyProof.Rows.F.plain_set_update_loop _]
    show wpAny _ A.in1 (pyNext (.ref I) >>= _) _ _ s
    refine wpAny_bind (W.item i s _ _ hlt hst fun v s' hP hst' hm => ?_)
    obtain ⟨z, t, hz, rfl⟩ := hval i v hP
    have hS' : TxAt P w s'.heap S (ns.take i) := hS.at fun o e => hm.heap S o hSw e
    show wpAny _ A.in1 (holding [Value.str z t] (setAdd S (.str z t)) >>= _) _ _ s'
    refine wpAny_bind (wpAny_holding ?_)
    unfold setAdd
    refine wpAny_holding (wpAny_bind ((strKind P w).pyHash (k := z) (Froz.is_str _ _) ?_))
    refine txAt_add (s := { s' with toks := s'.toks + 1 }) hS' (by rw [List.length_take]; omega) fun b h' hsb hS2 => ?_
    have hS3 : TxAt P w h' S (ns.take (i + 1)) := by
      rw [List.take_add_one, hz]; exact hS2
    refine wpAny_pure ⟨plainId_quiet PyProof.Rows.F.plain_set_update_loop _, ih (i + 1) _ (by omega) hlt (W.frame _ s' _ _ hst' (Nat.le_succ _) fun b hb o e => ?_) hS3 fun s'' hm'' hS'' => ?_⟩
    · rw [hsb.2 b (fun h : b = S => hSf (by rw [← h]; exact hb))]; exact e
    · refine hR s'' (Moved.trans W.gtrans ((hm.mono hsub).then_heap (Nat.le_succ _) fun b o hb e => ?_) hm'') hS''
      rw [hsb.2 b (fun h : b = S => hb (by rw [h]; exact List.mem_cons_self))]; exact e
set_option maxHeartbeats 3200000 in
theorem call_set_lstT {l : Addr} {items : Array Value} (ns : List Str) {Q : Value → Shared → Prop} (hh : A.handled = none) (hl : s.heap.IsList l items) (hit : StrsAre items.toList ns) (hb : ns.length + 1 < scanBound)
    (h : ∀ (h' : Heap) (tk : Nat), TxAt P w h' s.heap.objs.size ns → (∀ b o, s.heap.get? b = some o → h'.get? b = some o) → Q (.ref s.heap.objs.size) { s with heap := h', toks := tk }) :
    wpAny (model P w) A (call (.type "set") [.ref l]) Q E s := by
  have sz : items.size = ns.length := by rw [← Array.length_toList]; exact strs_len hit
  obtain ⟨c, tl, hmro⟩ := PySem.F.called_set.mro
  have m1 := PySem.F.called_set.made
  have m2 := PySem.F.called_set.sub
  have m3 := PySem.F.called_set.notType
  have m4 := PySem.F.called_set.canCreate
  have m5 := PySem.F.typeCall_set_1 (.ref l)
  refine wpAny_call (codeAny_of_tree ?_)
  show wpAny _ _ (callAny (.type "set") _) _ _ _
  refine wpAny_pure ⟨Code.quiet_builtin _ (by decide +kernel), codeAny_builtin PySem.F.entry_type_call ?_⟩
  rw [Around.under_plain (weight_type_call_type "set" [.ref l] []) rfl]
  repeat (any_goals (first | assumption | wp_step))
  have new : codeAny (model P w) A.in1 (.call (.builtin "set.__new__") ⟨[.type "set", .ref l], []⟩) (wants (fun obj s₁ => obj = .ref s.heap.objs.size ∧ s₁ = { s with heap := s.heap.push (setNew w) }) E) s :=
    code_set_led1 (.ref l) ⟨rfl, rfl⟩
  refine codeAny_mono new fun r s₁ hr => ?_
  cases r with
  | error e => exact hr
  | ok fl =>
   cases fl with
   | next => exact hr.elim
   | brk => exact hr.elim
   | cont => exact hr.elim
   | ret obj =>
    obtain ⟨rfl, rfl⟩ := hr
    have hS : (s.heap.push (setNew w)).get? s.heap.objs.size = some (setNew w) := Heap.get?_push_size _ rfl
    have hT : Shared.TypeIs { s with heap := s.heap.push (setNew w) } (.ref s.heap.objs.size) "set" := ⟨_, hS, rfl⟩
    have hli := PySem.F.called_set.init.lookup
    have hbi := PySem.F.called_set.init.bind (.ref s.heap.objs.size)
    repeat (any_goals (first | assumption | wp_step))
    refine codeAny_mono (codeAny_call_builtin (R := wants (fun r s₂ => r = .none ∧ ∃ h' tk, s₂ = { s with heap := h', toks := tk } ∧ TxAt P w h' s.heap.objs.size ns ∧
        (∀ b o, s.heap.get? b = some o → h'.get? b = some o)) E) PySem.F.called_set.init.plain PySem.F.entry_set_init (check_set_init_1 hT ?_)) fun r₂ s₂ hr₂ => ?_
    · obtain ⟨⟨ocls, odict, odata, oslots⟩, hol, hcl, nl, hdl⟩ := id hl
      simp only at hcl hdl
      subst hcl hdl
      have u1 := PySem.F.sub_list_set
      have u2 := PySem.F.sub_list_frozenset
      have u3 : (Value.type "list" == Value.type "dict") = false := by decide
      have hol' : (s.heap.push (setNew w)).get? l = some { cls := .type "list", dict := odict, data := .seq items nl, slots := oslots } := Heap.get?_push_of_some _ hol
      have hl1 : (s.heap.push (setNew w)).IsList l items := ⟨_, hol', rfl, nl, rfl⟩
      unfold Builtin.«set.__init__» noKeywords Builtin.Frozenset.updateFrom
      generalize hPI : pyIter = PI
      wp_walk
      subst hPI
      refine wpAny_pyIter_list hl1 (wpAny_bind (wpAny_runValue ?_))
      have lt : l < s.heap.objs.size := Heap.lt_size hol
      have z1 : (s.heap.push (setNew w)).objs.size = s.heap.objs.size + 1 := Heap.size_push ..
      have neI : l ≠ (s.heap.push (setNew w)).objs.size := by rw [z1]; (simp only [Addr] at *; omega)
      have nf : s.heap.objs.size ∉ [(s.heap.push (setNew w)).objs.size, l] := by
        rw [z1]; simp only [List.mem_cons, List.not_mem_nil, or_false, not_or]; constructor <;> (simp only [Addr] at *; omega)
      have val : ∀ (i : Nat) (v : Value), items[i]? = some v → ∃ k t, ns[i]? = some k ∧ v = .str k t := fun i v hv => strs_at hit i v (by rw [Array.getElem?_toList]; exact hv)
      refine set_update_txt ((Walks.list (show A.in1.in1.in1.handled = none by simp [hh]) _ l neI items).toS) s.heap.objs.size nf ns sz hb val (items.size - 0) 0 _ (by omega) (Nat.zero_le _)
        ⟨⟨_, Heap.get?_push_size _ rfl, rfl, rfl⟩, (hl1.push _)⟩ (by rw [List.take_zero]; exact txAt_new (Heap.get?_push_of_some _ hS)) fun s' hm hS' => ?_
      obtain ⟨h', g2, d', tk', os'⟩ := s'
      have eg : g2 = s.gens := hm.gens
      have ed : d' = s.drawn := hm.drawn
      have eo : os' = s.os := hm.os
      subst eg ed eo
      refine wpAny_pure ?_
      show wpAny _ _ (ret Value.none) _ _ _
      refine wpAny_pure ⟨rfl, h', tk', rfl, hS', fun b o e => ?_⟩
      have hb0 : b < s.heap.objs.size := Heap.lt_size e
      exact hm.heap b o (by rw [z1]; simp only [List.mem_cons, List.not_mem_nil, or_false, not_or]; constructor <;> (simp only [Addr] at *; omega)) (Heap.get?_push_of_some _ (Heap.get?_push_of_some _ e))
    · cases r₂ with
      | error e => exact hr₂
      | ok fl₂ =>
        cases fl₂ with
        | ret r =>
          obtain ⟨rfl, h', tk, rfl, hS', hk'⟩ := hr₂
          repeat (any_goals (first | assumption | wp_step))
          exact h _ _ hS' hk'
        | _ => exact hr₂.elim
end
end Den
namespace Den
open PySem PySem.Spec PyProof.Rows L2
section
variable {P : Program} {w : World} {A : Around} {E : Value → Shared → Prop} {s : Shared}
def sv : Value → List Nat
  | .str x _ => x.cps.toList
  | _ => []
def ltSv (v u : Value) : Bool := decide (sv v < sv u)
theorem swo_sv : SrtO.Swo ltSv := by
  refine ⟨fun x y h => ?_, fun x y z h1 h2 => ?_⟩
  · have a := of_decide_eq_true (p := sv x < sv y) h
    exact decide_eq_false (p := sv y < sv x) (List.lt_asymm a)
  · have a := of_decide_eq_false (p := sv y < sv x) h1
    have b := of_decide_eq_false (p := sv z < sv y) h2
    exact decide_eq_false (p := sv z < sv x) (List.not_lt.mpr (List.le_trans (List.not_lt.mp a) (List.not_lt.mp b)))
theorem strs_sortable {a : Addr} {vs : List Value} {ns : List Str} (hI : StrsAre vs ns) (h2 : 2 ≤ vs.length) : SrtO.SortableO P w A s a vs ltSv := by
  intro h' _
  refine ⟨oneType', fun Q E hq => ?_, fun p q hm hm' => ?_⟩
  · match vs, hI, h2 with
    | v1 :: v2 :: rest, hI, _ =>
      rw [keyKind_strs hI]
      exact wpAny_pure hq
    | [], _, h => exact absurd h (by decide)
    | [v], _, h => exact absurd h (by simp)
  · obtain ⟨a, t, e⟩ := hI.all _ hm
    obtain ⟨b, u, e'⟩ := hI.all _ hm'
    show wpAny (model P w) A (keyLt' oneType' p.1 q.1) (fun r s' => s' = { s with heap := h' } ∧ r = ltSv p.1 q.1) (fun _ _ => False) { s with heap := h' }
    rw [e, e', keyLt'_oneType]
    exact oneLt_str ⟨rfl, rfl⟩
def strV : Value → Str
  | .str x _ => x
  | _ => ""
theorem strs_of : ∀ {vs : List Value}, (∀ v ∈ vs, ∃ x u, v = Value.str x u) → StrsAre vs (vs.map strV)
  | [], _ => .nil
  | v :: vs, h => by
    obtain ⟨x, u, rfl⟩ := h v List.mem_cons_self
    exact .cons x u (strs_of fun y hy => h y (List.mem_cons_of_mem _ hy))
theorem nodup_of_mem : ∀ {l m : List Str}, m.length = l.length → l.Nodup → (∀ k, k ∈ m ↔ k ∈ l) → m.Nodup
  | l, [], _, _, _ => List.nodup_nil
  | l, x :: m, e, nd, h => by
    have hx : x ∈ l := (h x).mp List.mem_cons_self
    have hnx : x ∉ m := fun q => by
      have k := nodup_le nd fun y hy => (List.mem_cons.mp ((h y).mpr hy)).elim (fun e => e ▸ q) id
      rw [List.length_cons] at e
      omega
    refine List.nodup_cons.mpr ⟨hnx, nodup_of_mem (l := l.erase x) ?_ (nd.erase x) fun k => ?_⟩
    · rw [List.length_erase_of_mem hx]; rw [List.length_cons] at e; omega
    · rw [nd.mem_erase_iff, ← h k, List.mem_cons]
      exact ⟨fun q => ⟨fun e => hnx (e ▸ q), .inr q⟩, fun q => q.2.elim (fun e => absurd e q.1) id⟩
/-- sorted(a set of texts) -/
theorem sorted_setT {a : Addr} {ns : List Str} {Q : Value → Shared → Prop} (R : TxAt P w s.heap a ns) (hb : ns.length + 1 < scanBound) (hh : A.handled = none)
    (hQ : ∀ s' p (out : List Value) (c : Nat) (ks : List Str), (∀ b o, s.heap.get? b = some o → s'.heap.get? b = some o) → s'.gens = s.gens → s'.os = s.os → s.heap.objs.size ≤ p →
      s'.heap.get? p = some (seqObj "list" out.toArray c) → StrsAre out ks → ks.Pairwise (fun x y => ¬ y.cps.toList < x.cps.toList) → ks.Nodup → (∀ k, k ∈ ks ↔ k ∈ ns) → Q (.ref p) s') :
    wpAny (model P w) A (call (.builtin "sorted") [.ref a]) Q E s := by
  obtain ⟨⟨es, ep, t⟩, l, ho, F, nd, hm, hr, hl⟩ := R
  have hlen : l.length ≤ ns.length := nodup_le nd fun x hx => (hm x).mp hx
  have hsz : es.size = l.length := F.sz
  have hb' : es.size < scanBound := by omega
  refine Calls.call_function_entry kind_sorted plain_sorted entry_sorted (args_sorted1 _) ?_
  unfold Builtin.«sorted»
  refine wpAny_bind (m := checkCount "sorted" 1 1 _) (wpAny_pure ?_)
  refine wpAny_bind (collect_set (A := A.in1) hh ⟨_, ho, rfl, rfl⟩ F.fit hb' hr hl fun s1 vs k1 hz g1 o1 pm => ?_)
  have hE : ∀ e ∈ es.toList, ∃ x u, e.2 = Value.str x u := fun e he => by
    obtain ⟨⟨k, hk, _⟩, _⟩ := F.el e he
    obtain ⟨u, hu⟩ := Value.isStrOf_shape hk
    exact ⟨k, u, hu⟩
  have hV : ∀ v ∈ vs, ∃ x u, v = Value.str x u := fun v hv => by
    obtain ⟨e, he, q⟩ := List.mem_map.mp (pm.mem_iff.mp hv)
    rw [← q]; exact hE e he
  have hI := strs_of hV
  have hvl : vs.length = es.size := by rw [pm.length_eq, List.length_map, Array.length_toList]
  have hlen2 : vs.length ≤ sizeLine := by rw [hvl]; exact fits_of_scanBound hb'
  -- what stands in the set
  have hmem : ∀ k, k ∈ vs.map strV ↔ k ∈ l := fun k => by
    rw [F.mem k]
    constructor
    · intro h
      obtain ⟨v, hv, rfl⟩ := List.mem_map.mp h
      obtain ⟨e, he, q⟩ := List.mem_map.mp (pm.mem_iff.mp hv)
      obtain ⟨x, u, hx⟩ := hE e he
      refine ⟨e, he, ?_⟩
      rw [← q, hx]
      exact Froz.is_str x u
    · rintro ⟨e, he, hk⟩
      obtain ⟨u, hu⟩ := Value.isStrOf_shape hk
      exact List.mem_map.mpr ⟨e.2, pm.mem_iff.mpr (List.mem_map.mpr ⟨e, he, rfl⟩), by rw [hu]; rfl⟩
  have hnd : (vs.map strV).Nodup := by
    have len : (vs.map strV).length = l.length := by rw [List.length_map, hvl, hsz]
    exact nodup_of_mem len nd hmem
  refine wpAny_bind (wpAny_newList ?_ hlen2)
  have hoL : (s1.heap.push (seqObj "list" vs.toArray 0)).get? s1.heap.objs.size = some (seqObj "list" vs.toArray 0) := Heap.get?_push_size _ rfl
  refine wpAny_bind (wpAny_holding (wpAny_call_entry slot_list_sort ⟨_, hoL, rfl⟩ entry_list_sort (SrtO.list_sort_ord swo_sv hoL hlen2 (fun h2 => strs_sortable hI h2) fun out h1 h2 => ⟨_, rfl, ?_⟩) (args_list_sort _)))
  obtain ⟨c, hc⟩ := sortedHeap_at (vs := vs) (out := out.toArray) hoL
  have hO : ∀ v ∈ out, ∃ x u, v = Value.str x u := fun v hv => hV v (h2.perm.mem_iff.mp hv)
  have pO : (out.map strV).Perm (vs.map strV) := h2.perm.map strV
  refine wpAny_pure ⟨_, rfl, hQ _ s1.heap.objs.size out c (out.map strV) (fun b u e => ?_) g1 o1 hz hc (strs_of hO) ?_ (pO.nodup_iff.mpr hnd) fun k => by rw [pO.mem_iff, hmem k, hm k]⟩
  · have q := k1 b u e
    have hlt := Heap.lt_size q
    show (sortedHeap (s1.heap.push (seqObj "list" vs.toArray 0)) s1.heap.objs.size vs out.toArray).get? b = some u
    rw [sortedHeap_old (Nat.ne_of_lt hlt) (by rw [size_push']; exact Nat.lt_succ_of_lt hlt)]
    exact Heap.get?_push_of_some _ q
  · refine List.pairwise_map.mpr (h1.imp_of_mem fun {x y} hx hy h => ?_)
    obtain ⟨a1, u1, rfl⟩ := hO x hx
    obtain ⟨a2, u2, rfl⟩ := hO y hy
    exact of_decide_eq_false (p := a2.cps.toList < a1.cps.toList) h
end
section
variable {X : Cx}
/-- sorted(set(xs)), texts -/
def tSsetT (K : PySem.W.Frag) (ta : TE) : TE := fun σ H Q => ta σ H fun x H1 => ∃ (a : Addr) (ns : List Str), x = .ref a ∧ SqL K H1 a (ns.map V.str) ∧ ns.length + 1 < scanBound ∧
  ∀ (ks : List Str) (p : Addr), ks.Pairwise (fun x y => ¬ y.cps.toList < x.cps.toList) → ks.Nodup → (∀ k, k ∈ ks ↔ k ∈ ns) → H1 p = none → Q (.ref p) (upd H1 p (.lst (ks.map V.str)))
theorem pe_ssetT {e : Expr} {ta : TE} {p p2 q pos : Pos} (hc : X.calm = true) (hg : Gl X "sorted") (hm : X.mg "sorted" = none) (hg2 : Gl X "set") (hm2 : X.mg "set" = none) (ha : PE X e ta)
    (na : starEach [e] X.env = (false, eval e X.env) :: starEach [] X.env) : PE X (.Call (.Name "sorted" p) [.Call (.Name "set" p2) [e] [] q] [] pos) (tSsetT X.K ta) := by
  refine ⟨fun pins s σ H Q I h => ?_⟩
  refine Call_ (ld_blt I hg hm boot_sortedY ?_)
  refine PyProof.Rows.callWith_builtin1 (PyProof.Rows.args_cons ?_ rfl) rfl rfl
  refine Call_ (ld_blt I hg2 hm2 boot_setY ?_)
  refine PyProof.Rows.callWith_type1 (PyProof.Rows.args_cons (thn (ha.run pins s σ H _ I h) fun v s1 ⟨x, H1, I1, r1, q1⟩ => PyProof.Rows.args_nil ?_) na) na rfl
  obtain ⟨a, ns, rfl, hs, hb, hq⟩ := q1
  cases r1
  obtain ⟨its, rv, pl, hz⟩ := I1.list hs
  refine call_set_lstT ns (I1.ok.hd hc) pl.isList (by simpa using strsAre_of rv) hb fun h' tk R hk => ?_
  refine PyProof.Rows.args_nil ?_
  have I2 : Inv X pins σ H1 { s1 with heap := h', toks := tk } := I1.kept hk
  refine sorted_setT (s := { s1 with heap := h', toks := tk }) R hb (I1.ok.hd hc) fun s' p out c2 ks k g o hp hgt hi hs' hnd hm' => ?_
  have hn : H1 p = none := I2.hok.fresh hp
  have hlen : (ks.map V.str).length ≤ sizeLine := by
    have := nodup_le hnd fun x hx => (hm' x).mp hx
    rw [List.length_map, sizeLine_eq]; unfold scanBound at hb; omega
  have J : Inv X pins σ (upd H1 p (.lst (ks.map V.str))) { ({ s1 with heap := h', toks := tk } : Shared) with heap := s'.heap, gens := s'.gens, drawn := s'.drawn, toks := s'.toks } :=
    I2.call (ch := []) (Un.laid k hp hn) (I2.hok.laid k hp ⟨hlen, out, c2, vals_of_strs hi, hgt⟩) (by rw [g]; exact I2.bare) (fun _ z => nomatch z)
  have e : s' = { ({ s1 with heap := h', toks := tk } : Shared) with heap := s'.heap, gens := s'.gens, drawn := s'.drawn, toks := s'.toks } := by
    cases s'
    cases s1
    cases o
    rfl
  rw [e]
  exact ⟨.ref p, _, J, rfl, hq ks p hs' hnd hm' hn⟩
end
end Den
namespace Den
open PySem PySem.Spec PyProof.Rows L2
theorem insT_mem (i : Str) : ∀ (l : List Str) (k : Str), k ∈ insT i l ↔ k = i ∨ k ∈ l
  | [], k => by simp [insT]
  | j :: r, k => by
    rw [insT]
    split
    · simp
    · split
      · rename_i _ e; rw [e]; simp
      · rw [List.mem_cons, insT_mem i r k, List.mem_cons]
        exact ⟨fun h => h.elim (fun e => .inr (.inl e)) fun h => h.elim .inl fun h => .inr (.inr h), fun h => h.elim (fun e => .inr (.inl e)) fun h => h.elim .inl fun h => .inr (.inr h)⟩
theorem sortT_mem : ∀ (l : List Str) (k : Str), k ∈ sortT l ↔ k ∈ l
  | [], k => Iff.rfl
  | i :: r, k => by rw [sortT, insT_mem, sortT_mem r, List.mem_cons]
theorem str_ext {a b : Str} (h : a.cps.toList = b.cps.toList) : a = b := by
  cases a; cases b
  simp only [Str.mk.injEq]
  exact Array.toList_inj.mp h
theorem insT_srt (i : Str) : ∀ l : List Str, l.Pairwise (fun x y => x.cps.toList < y.cps.toList) → (insT i l).Pairwise (fun x y => x.cps.toList < y.cps.toList)
  | [], _ => List.pairwise_singleton _ _
  | j :: r, h => by
    rw [insT]
    rw [List.pairwise_cons] at h
    split
    · rename_i hij
      refine List.pairwise_cons.mpr ⟨fun x hx => ?_, List.pairwise_cons.mpr h⟩
      rcases List.mem_cons.mp hx with e | hx
      · rw [e]; exact hij
      · exact List.lt_trans hij (h.1 x hx)
    · rename_i hij
      split
      · exact List.pairwise_cons.mpr h
      · rename_i ne
        refine List.pairwise_cons.mpr ⟨fun x hx => ?_, insT_srt i r h.2⟩
        rcases (insT_mem i r x).mp hx with e | hx
        · rw [e]
          by_cases q : j.cps.toList < i.cps.toList
          · exact q
          · exact absurd (str_ext (List.le_antisymm (List.not_lt.mp q) (List.not_lt.mp hij))) ne
        · exact h.1 x hx
theorem sortT_srt : ∀ l : List Str, (sortT l).Pairwise (fun x y => x.cps.toList < y.cps.toList)
  | [] => .nil
  | i :: r => insT_srt i _ (sortT_srt r)
theorem txt_uniq : ∀ {l m : List Str}, l.Pairwise (fun x y => x.cps.toList < y.cps.toList) → m.Pairwise (fun x y => x.cps.toList < y.cps.toList) → (∀ k, k ∈ l ↔ k ∈ m) → l = m
  | [], [], _, _, _ => rfl
  | [], y :: m, _, _, h => absurd ((h y).mpr List.mem_cons_self) (by simp)
  | x :: l, [], _, _, h => absurd ((h x).mp List.mem_cons_self) (by simp)
  | x :: l, y :: m, hl, hm, h => by
    rw [List.pairwise_cons] at hl hm
    have e : x = y := by
      rcases List.mem_cons.mp ((h x).mp List.mem_cons_self) with e | h1
      · exact e
      · rcases List.mem_cons.mp ((h y).mpr List.mem_cons_self) with e | h2
        · exact e.symm
        · exact absurd (List.lt_trans (hm.1 x h1) (hl.1 y h2)) (List.lt_irrefl _)
    subst e
    rw [txt_uniq hl.2 hm.2 fun k => ?_]
    constructor
    · intro hk
      rcases List.mem_cons.mp ((h k).mp (List.mem_cons_of_mem _ hk)) with e | q
      · rw [e] at hk; exact absurd (hl.1 x hk) (List.lt_irrefl _)
      · exact q
    · intro hk
      rcases List.mem_cons.mp ((h k).mpr (List.mem_cons_of_mem _ hk)) with e | q
      · rw [e] at hk; exact absurd (hm.1 x hk) (List.lt_irrefl _)
      · exact q
theorem sortT_of {ks ns : List Str} (h1 : ks.Pairwise (fun x y => ¬ y.cps.toList < x.cps.toList)) (h2 : ks.Nodup) (h3 : ∀ k, k ∈ ks ↔ k ∈ ns) : ks = sortT ns := by
  refine txt_uniq ?_ (sortT_srt ns) fun k => by rw [h3, sortT_mem]
  have : ks.Pairwise (fun x y => ¬ y.cps.toList < x.cps.toList ∧ x ≠ y) := h1.and h2
  refine this.imp fun {x y} h => ?_
  by_cases q : x.cps.toList < y.cps.toList
  · exact q
  · exact absurd (str_ext (List.le_antisymm (List.not_lt.mp h.1) (List.not_lt.mp q))) h.2
theorem ssD_ne (xs : List D) : ∀ c, ssD xs ≠ .exc c := by
  unfold ssD
  split
  · exact ne_guard ne_ok
  · exact ne_bind (someR_ne _) fun _ => ne_guard ne_ok
theorem lenSetD_ne (xs : List D) : ∀ c, lenSetD xs ≠ .exc c := by
  unfold lenSetD
  exact ne_bind (someR_ne _) fun _ => ne_guard ne_ok
theorem itemsL_eq {z : D} {xs : List D} (h : itemsL z = .ok xs) : z = .lst xs := by
  cases z <;> first | (cases h; rfl) | cases h
section
variable {T : Tbl} {fn : Nat → List D → R D} {W : WX} {cls : Nat → Value} {d : Bool} {sc : Scope} {X : Cx}
theorem snd_sset (C : Ctx T fn W cls d sc X) {a : Ex} {l : Expr} {p p2 q pos : Pos} (h1 : blt T sc "sorted" = true) (h2 : blt T sc "set" = true) (ha : Snd T fn W cls X a l) (hl : plE l = true) :
    Snd T fn W cls X (.sset a) (.Call (.Name "sorted" p) [.Call (.Name "set" p2) [l] [] q] [] pos) := by
  obtain ⟨g1, g2, g3, g4⟩ := blt_ok C h1
  obtain ⟨k1, k2, k3, k4⟩ := blt_ok C h2
  have pe1 := fun (pos : Pos) => pe_sset (p := p) (p2 := p2) (q := q) (pos := pos) C.calm g1 g2 k1 k2 ha.pe (plE_star hl)
  have pe2 := fun (pos : Pos) => pe_ssetT (p := p) (p2 := p2) (q := q) (pos := pos) C.calm g1 g2 k1 k2 ha.pe (plE_star hl)
  refine .of (pe_ex fun σ H Q h => ?_) (fun _ => rfl) rfl
  obtain ⟨G, ρ, F, h⟩ := h
  have h : Want W cls X.K .T ((ev fn a ρ).bind fun x => (itemsL x).bind ssD) G H σ Q := h
  by_cases ht : ∃ xs, ev fn a ρ = .ok (.lst xs) ∧ dInts xs = none
  · obtain ⟨xs, e0, en⟩ := ht
    refine ⟨_, pe2 pos, seqE F h fun z v H1 G1 ez t1 F1 p1 h3 => ?_⟩
    rw [e0] at ez
    cases ez
    obtain ⟨u, hu, q1⟩ := want_pure (ssD_ne xs) h3
    unfold ssD at hu
    rw [en] at hu
    obtain ⟨ss, e3, e4⟩ := bind_okE hu
    obtain ⟨e5, e6⟩ := guard_ok e4
    cases e6
    obtain rfl := dStrs_map (someR_ok e3)
    obtain ⟨b, vs, rfl, s1, s2⟩ := p1.toB.lst F1.sub
    obtain rfl := strs_vs s2
    refine ⟨b, ss, rfl, s1, by have := of_decide_eq_true e5; show ss.length + 1 < 4096; omega, fun ks p hs hn hm hp => ?_⟩
    obtain rfl := sortT_of hs hn hm
    exact newT F1.ok (o := .lst _) trivial q1 (.lst (strs_rp _)) p hp
  · refine ⟨_, pe1 pos, seqE F h fun z v H1 G1 ez t1 F1 p1 h3 => ?_⟩
    obtain ⟨u, hu, q1⟩ := want_pure (ne_bind (itemsL_ne z) fun xs => ssD_ne xs) h3
    obtain ⟨xs, e1, e2⟩ := bind_okE hu
    obtain rfl := itemsL_eq e1
    cases e3 : dInts xs with
    | none => exact absurd ⟨xs, ez, e3⟩ ht
    | some is =>
      unfold ssD at e2
      rw [e3] at e2
      obtain ⟨e5, e6⟩ := guard_ok e2
      cases e6
      obtain rfl := dInts_map e3
      obtain ⟨b, vs, rfl, s1, s2⟩ := p1.toB.lst F1.sub
      obtain rfl := s2.ints
      refine ⟨b, is, rfl, s1, by have := of_decide_eq_true e5; show is.length + 1 < 4096; omega, fun ks p hs hm hp => ?_⟩
      have e : ks = sortU is := rising_uniq hs (sortU_srt is) fun k => by rw [hm, sortU_mem]
      subst e
      exact newT F1.ok (o := .lst _) trivial q1 (.lst (RpL.ofInts _)) p hp
/-- len(set(xs)), texts -/
def tLsetT (K : PySem.W.Frag) (ta : TE) : TE := fun σ H Q => ta σ H fun x H1 => ∃ (a : Addr) (ns : List Str), x = .ref a ∧ SqL K H1 a (ns.map V.str) ∧ ns.length + 1 < scanBound ∧ Q (.int (sortT ns).length) H1
theorem boot_lenY : bootBuiltins "len" = some (.builtin "len") := by decide +kernel
theorem pe_lsetT {e : Expr} {ta : TE} {p p2 q pos : Pos} (hc : X.calm = true) (hg : Gl X "len") (hm : X.mg "len" = none) (hg2 : Gl X "set") (hm2 : X.mg "set" = none) (ha : PE X e ta)
    (na : starEach [e] X.env = (false, eval e X.env) :: starEach [] X.env) : PE X (.Call (.Name "len" p) [.Call (.Name "set" p2) [e] [] q] [] pos) (tLsetT X.K ta) := by
  refine ⟨fun pins s σ H Q I h => ?_⟩
  refine Call_ (ld_blt I hg hm boot_lenY ?_)
  refine PyProof.Rows.callWith_builtin1 (PyProof.Rows.args_cons ?_ rfl) rfl rfl
  refine Call_ (ld_blt I hg2 hm2 boot_setY ?_)
  refine PyProof.Rows.callWith_type1 (PyProof.Rows.args_cons (thn (ha.run pins s σ H _ I h) fun v s1 ⟨x, H1, I1, r1, q1⟩ => PyProof.Rows.args_nil ?_) na) na rfl
  obtain ⟨a, ns, rfl, hs, hb, hq⟩ := q1
  cases r1
  obtain ⟨its, rv, pl, hz⟩ := I1.list hs
  refine call_set_lstT ns (I1.ok.hd hc) pl.isList (by simpa using strsAre_of rv) hb fun h' tk R hk => ?_
  refine PyProof.Rows.args_nil ?_
  have I2 : Inv X pins σ H1 { s1 with heap := h', toks := tk } := I1.kept hk
  obtain ⟨⟨es, ep, t⟩, l, ho, F, nd, hm', hr, hl⟩ := R
  have hsz : es.size = l.length := F.sz
  have n1 : l.length = (sortT ns).length := by
    have nd2 : (sortT ns).Nodup := (sortT_srt ns).imp fun {x y} (h : x.cps.toList < y.cps.toList) (e : x = y) => by rw [e] at h; exact List.lt_irrefl _ h
    exact Nat.le_antisymm (nodup_le nd fun x hx => (sortT_mem ns x).mpr ((hm' x).mp hx)) (nodup_le nd2 fun x hx => (hm' x).mpr ((sortT_mem ns x).mp hx))
  have n2 : l.length ≤ ns.length := nodup_le nd fun x hx => (hm' x).mp hx
  refine call_len_set ho ⟨rfl, rfl, rfl⟩ rfl F.fit (by show ((es.size : Nat) : Int) < 2 ^ 63; rw [hsz]; unfold scanBound at hb; omega) ⟨.int (sortT ns).length, H1, I2.tok _, ⟨_, by rw [hsz, n1]⟩, hq⟩
theorem snd_lset (C : Ctx T fn W cls d sc X) {a : Ex} {l : Expr} {p p2 q pos : Pos} (h1 : blt T sc "len" = true) (h2 : blt T sc "set" = true) (ha : Snd T fn W cls X a l) (hl : plE l = true) :
    Snd T fn W cls X (.lset a) (.Call (.Name "len" p) [.Call (.Name "set" p2) [l] [] q] [] pos) := by
  obtain ⟨g1, g2, g3, g4⟩ := blt_ok C h1
  obtain ⟨k1, k2, k3, k4⟩ := blt_ok C h2
  refine .of (pe_imp (pe_lsetT C.calm g1 g2 k1 k2 ha.pe (plE_star hl)) fun σ H Q h => ?_) (fun _ => rfl) rfl
  obtain ⟨G, ρ, F, h⟩ := h
  refine seqE F (show Want W cls X.K .S ((ev fn a ρ).bind fun x => (itemsL x).bind lenSetD) G H σ Q from h) fun z v H1 G1 ez t1 F1 p1 h3 => ?_
  obtain ⟨u, hu, q1⟩ := want_pure (ne_bind (itemsL_ne z) fun xs => lenSetD_ne xs) h3
  obtain ⟨xs, e1, e2⟩ := bind_okE hu
  obtain rfl := itemsL_eq e1
  unfold lenSetD at e2
  obtain ⟨ss, e3, e4⟩ := bind_okE e2
  obtain ⟨e5, e6⟩ := guard_ok e4
  cases e6
  obtain rfl := dStrs_map (someR_ok e3)
  obtain ⟨b, vs, rfl, s1, s2⟩ := p1.toB.lst F1.sub
  obtain rfl := strs_vs s2
  exact ⟨b, ss, rfl, s1, by have := of_decide_eq_true e5; show ss.length + 1 < 4096; omega, q1 (.int _) _ _ (Stp.refl F1.ok) (Rp.int _)⟩
end
end Den
namespace Den
open PySem PySem.Spec PyProof.Rows L2
section
variable {T : Tbl} {fn : Nat → List D → R D} {W : WX} {cls : Nat → Value} {d : Bool} {sc : Scope} {X : Cx}
theorem snd_slO (C : Ctx T fn W cls d sc X) {a lo : Ex} {l r : Expr} {p p2 : Pos} (ha : Snd T fn W cls X a l) (hb : Snd T fn W cls X lo r) : Snd T fn W cls X (.slO a lo) (.Subscript l (.Slice none (some r) none p2) p) := by
  refine .of (pe_imp (pe_slice sl_list ha.pe po_none (po_some hb.pe)) fun σ H Q h => ?_) (fun _ => rfl) rfl
  obtain ⟨G, ρ, F, h⟩ := h
  have h : Want W cls X.K .T ((ev fn a ρ).bind fun x => (ev fn lo ρ).bind fun y => (asInt y).bind fun i => (itemsL x).bind fun xs => .ok (.lst (cutL xs none (some i)))) G H σ Q := h
  refine seqE F h fun z1 v1 H1 G1 _ t1 F1 p1 h1 => ?_
  refine seqE F1 h1 fun z2 v2 H2 G2 _ t2 F2 p2 h2 => ?_
  obtain ⟨i, rfl, h2⟩ := want_int h2
  obtain ⟨z, hz, q⟩ := want_pure (ne_bind (itemsL_ne z1) fun _ => ne_ok) h2
  obtain ⟨xs, e1, e2⟩ := bind_okE hz
  cases e2
  have ez : z1 = .lst xs := by cases z1 <;> first | (cases e1; rfl) | cases e1
  subst ez
  obtain ⟨b, vs, rfl, s1, r1⟩ := (p1.toB.step t2).lst F2.sub
  exact ⟨i, p2.int, b, vs, rfl, s1, newT F2.ok (o := .lst _) trivial q (.lst (cutL_rp r1 none (some i)))⟩
theorem dlO_ne (x y : D) : ∀ c, dlO x y ≠ .exc c := by
  unfold dlO
  split <;> first | exact ne_ok | exact ne_bad
theorem snd_dlitO (C : Ctx T fn W cls d sc X) {k v : Ex} {l r : Expr} {p : Pos} (hk : Snd T fn W cls X k l) (hv : Snd T fn W cls X v r) (nv : nB T v = true) : Snd T fn W cls X (.dlitO k v) (.Dict [some l] [r] p) := by
  refine .of (pe_imp (pe_disp (pps_cons hk.pe hv.pe pps_nil) rfl rfl (by simp) (by simp)) fun σ H Q h => ?_) (fun _ => rfl) rfl
  obtain ⟨G, ρ, F, h⟩ := h
  intro a ha
  have t0 : Stp G H G (L2.upd H a (.dK [])) := Stp.newO F.ok ha trivial
  have hga : G a = none := F.ok.s.free ha
  have h' : Want W cls X.K .T ((ev fn k ρ).bind fun x => (ev fn v ρ).bind fun y => dlO x y) G H σ Q := h
  refine seqE (F.step t0) (Want.shift t0 h') fun z1 v1 H1 G1 k1 t1 F1 p1 h1 => ?_
  refine seqE F1 h1 fun z2 v2 H2 G2 k2 t2 F2 p2 h2 => ?_
  obtain ⟨z, hz, q⟩ := want_pure (dlO_ne z1 z2) h2
  unfold dlO at hz
  split at hz
  · rename_i kk hkk
    cases hz
    obtain ⟨G3, t3, r3⟩ := p2.toS (nB_ne nv) t2
    have t4 := (t0.trans t1).trans t3
    have e1 : v1 = kV kk := p1.toB.key hkk
    subst e1
    have hh : H2 a = some (.dK []) := t3.h _ _ (t1.h _ _ upd_same)
    have hg3 : G3 a = none := t3.k _ _ (t1.h _ _ upd_same) (t1.k _ _ upd_same hga)
    refine ⟨hh, [(kk, v2)], rfl, by simp, ?_⟩
    rw [k1, R.bind_ok, k2, R.bind_ok] at h'
    unfold dlO at h'
    rw [hkk] at h'
    exact h' _ _ _ (t4.updO ha hg3 trivial) ⟨a, .dK [(kk, v2)], rfl, ha, upd_same, hg3, .dct (kvs := [(kk, v2)]) (.cons r3 .nil)⟩
  · cases hz
/-- new own things, all of them -/
inductive PTL (K : PySem.W.Frag) (H G' H' : Hp) : List V → List D → Prop
  | nil : PTL K H G' H' [] []
  | cons {v : V} {vs : List V} {d : D} {ds : List D} : (∃ a o, v = .ref a ∧ H a = none ∧ H' a = some o ∧ G' a = none ∧ RpO K G' o d) → PTL K H G' H' vs ds → PTL K H G' H' (v :: vs) (d :: ds)
theorem PTL.step {K : PySem.W.Frag} {H G1 H1 G2 H2 : Hp} (t : Stp G1 H1 G2 H2) : ∀ {vs : List V} {ds : List D}, PTL K H G1 H1 vs ds → PTL K H G2 H2 vs ds
  | _, _, .nil => .nil
  | _, _, .cons ⟨a, o, e, n, ho, hg, r⟩ l => .cons ⟨a, o, e, n, t.h _ _ ho, t.k _ _ ho hg, r.mono t.g⟩ (PTL.step t l)
theorem PTL.back {K : PySem.W.Frag} {H G1 H1 G2 H2 : Hp} {G : Hp} (t : Stp G H G1 H1) : ∀ {vs : List V} {ds : List D}, PTL K H1 G2 H2 vs ds → PTL K H G2 H2 vs ds
  | _, _, .nil => .nil
  | _, _, .cons ⟨a, o, e, n, ho, hg, r⟩ l => .cons ⟨a, o, e, t.h.free n, ho, hg, r⟩ (PTL.back t l)
theorem PTL.len {K : PySem.W.Frag} {H G' H' : Hp} : ∀ {vs : List V} {ds : List D}, PTL K H G' H' vs ds → vs.length = ds.length
  | _, _, .nil => rfl
  | _, _, .cons _ l => by rw [List.length_cons, List.length_cons, l.len]
theorem PTL.get {K : PySem.W.Frag} {H G' H' : Hp} : ∀ {vs : List V} {ds : List D} {i : Nat} {d : D}, PTL K H G' H' vs ds → ds[i]? = some d → ∃ v, vs[i]? = some v ∧ ∃ a o, v = .ref a ∧ H a = none ∧ H' a = some o ∧ G' a = none ∧ RpO K G' o d
  | _, _, _, _, .nil, e => by simp at e
  | _, _, 0, _, .cons r _, e => by simp at e; subst e; exact ⟨_, rfl, r⟩
  | _, _, i + 1, d, .cons _ t, e => by
    obtain ⟨u, h1, h2⟩ := PTL.get (i := i) (d := d) t (by simpa using e)
    exact ⟨u, by simpa using h1, h2⟩
def WantF (W : WX) (cls : Nat → Value) (K : PySem.W.Frag) (r : R (List D)) (G H : Hp) (σ : L2.St) (Q : List V → Hp → Prop) : Prop := match r with
  | .ok zs => ∀ vs H' G', Stp G H G' H' → PTL K H G' H' vs zs → Q vs H'
  | .exc c => ∀ H' G', Stp G H G' H' → W (cls c) none σ H'
  | .bad => False
theorem WantF.shift {r : R (List D)} {K : PySem.W.Frag} {G H G1 H1 : Hp} {σ : L2.St} {Q : List V → Hp → Prop} (t : Stp G H G1 H1) (h : WantF W cls K r G H σ Q) : WantF W cls K r G1 H1 σ Q := by
  cases r with
  | ok z => exact fun v H' G' u p => h v H' G' (t.trans u) (p.back t)
  | exc c => exact fun H' G' u => h H' G' (t.trans u)
  | bad => exact h
def tLF (T : Tbl) (fn : Nat → List D → R D) (W : WX) (cls : Nat → Value) (K : PySem.W.Frag) (x : Exs) : TA := fun σ H Q => ∃ G ρ, FI K T.isOwn G ρ σ H ∧ WantF W cls K (evs fn x ρ) G H σ Q
theorem paF_none : PA X [] (tLF T fn W cls X.K .nil) := by
  refine pa_imp pa_nil fun σ H Q h => ?_
  obtain ⟨G, ρ, F, h⟩ := h
  exact h [] H G (Stp.refl F.ok) .nil
theorem paF_some {a : Ex} {r : Exs} {e : Expr} {es : List Expr} (ha : Snd T fn W cls X a e) (hp : plE e = true) (hn : kd T a = .T) (hr : PA X es (tLF T fn W cls X.K r)) : PA X (e :: es) (tLF T fn W cls X.K (.cons a r)) := by
  refine pa_imp (pa_cons ha.pe hr (plE_star hp)) fun σ H Q h => ?_
  obtain ⟨G, ρ, F, h⟩ := h
  have h' : WantF W cls X.K ((ev fn a ρ).bind fun x => (evs fn r ρ).bind fun xs => .ok (x :: xs)) G H σ Q := h
  refine ⟨G, ρ, F, ?_⟩
  cases e1 : ev fn a ρ with
  | exc c' => rw [e1] at h'; exact h'
  | bad => rw [e1] at h'; exact h'
  | ok z =>
    rw [e1] at h'
    intro v H1 G1 t1 p1
    rw [hn] at p1
    have F1 := F.step t1
    obtain ⟨a1, o1, ev1, n1, ho1, hg1, r1⟩ := p1
    have h2 : WantF W cls X.K ((evs fn r ρ).bind fun xs => .ok (z :: xs)) G H σ Q := h'
    refine ⟨G1, ρ, F1, ?_⟩
    cases e2 : evs fn r ρ with
    | exc c' => rw [e2] at h2; exact fun H' G' t => h2 H' G' (t1.trans t)
    | bad => rw [e2] at h2; exact h2
    | ok zs =>
      rw [e2] at h2
      intro vs H2 G2 t2 p2
      exact h2 (v :: vs) H2 G2 (t1.trans t2) (.cons ⟨a1, o1, ev1, n1, t2.h _ _ ho1, t2.k _ _ ho1 hg1, r1.mono t2.g⟩ (p2.back t1))
theorem rows_kd {a : Ex} {r : Exs} (h : rowsE (.cons a r) = true) : kd T a = .T ∧ rowsE r = true := by
  cases a <;> first | exact ⟨rfl, h⟩ | cases h
theorem snd_pickL (C : Ctx T fn W cls d sc X) {rs : Exs} {i : Ex} {l : List Expr} {r : Expr} {p p2 : Pos} (hm : mEs T false rs sc l = true) (ha : PA X l (tLF T fn W cls X.K rs)) (hl : l.length ≤ Line) (hb : Snd T fn W cls X i r) (hp : plE r = true) : Snd T fn W cls X (.pickL rs i) (.Subscript (.List l p2) r p) := by
  refine .of (pe_imp (pe_ix ix_list (pe_lst ha) hb.pe (plE_ix hp)) fun σ H Q h => ?_) (fun _ => rfl) rfl
  obtain ⟨G, ρ, F, h⟩ := h
  have h : Want W cls X.K .T ((evs fn rs ρ).bind fun ds => (ev fn i ρ).bind fun y => ixD (.lst ds) y) G H σ Q := h
  refine ⟨G, ρ, F, ?_⟩
  cases e1 : evs fn rs ρ with
  | exc c => rw [e1] at h; exact h
  | bad => rw [e1] at h; exact h
  | ok zs =>
    rw [e1] at h
    intro vs H1 G1 t1 p1
    have hz := evs_len hm e1
    refine ⟨by rw [p1.len, hz, sizeLn]; exact hl, fun q hq => ?_⟩
    have t2 : Stp G1 H1 G1 (L2.upd H1 q (.lst vs)) := Stp.newO t1.o hq trivial
    have F2 := F.step (t1.trans t2)
    refine seqE F2 (Want.shift (t1.trans t2) h) fun z2 v2 H3 G3 k3 t3 F3 p3 h3 => ?_
    obtain ⟨z, hz2, _⟩ := want_pure (ixD_ne _ z2) h3
    have e0 := hz2
    unfold ixD at e0
    split at e0
    · rename_i ds j he
      cases he
      cases e4 : atI zs j with
      | none => rw [e4] at e0; cases e0
      | some t =>
        rw [e4] at e0
        cases e0
        have e5 := e4
        unfold atI at e5
        obtain ⟨m, m1, m2⟩ := Option.bind_eq_some_iff.mp e5
        obtain ⟨v, g1, a, o, rfl, n, ho, hg, rr⟩ := p1.get m2
        have vv : atI vs j = some (.ref a) := by
          unfold atI
          rw [p1.len, m1]
          exact g1
        refine ⟨q, vs, j, .ref a, rfl, p3.int, SqL.of (t3.h _ _ upd_same), vv, ?_⟩
        have h5 : Want W cls X.K .T ((ev fn i ρ).bind fun y => ixD (.lst zs) y) G H σ Q := h
        rw [k3, R.bind_ok, hz2] at h5
        have qa : a ≠ q := fun e => by rw [e] at ho; rw [hq] at ho; cases ho
        have ho2 : (L2.upd H1 q (.lst vs)) a = some o := by rw [upd_ne qa]; exact ho
        exact h5 _ _ _ ((t1.trans t2).trans t3) ⟨a, o, rfl, n, t3.h _ _ ho2, t3.k _ _ ho2 hg, rr.mono t3.g⟩
    · rename_i he; cases he
    · rename_i he; cases he
    · rename_i he; cases he
    · cases e0
end
section
variable {X : Cx} {G H : Hp}
theorem PB.dctF {v : V} {ks : List Key} {ds : List D} (h : PB X.K G H v (.dct false ks ds)) (s : Same G H) : ∃ a kvs, v = .ref a ∧ H a = some (.dK kvs) ∧ kvs.map (·.1) = ks ∧ RpL X.K G (kvs.map (·.2)) ds := by
  rcases h with h | ⟨a, o, rfl, ho, hg, r⟩
  · cases h with
    | dct e l => exact ⟨_, _, rfl, s _ _ e, rfl, l⟩
  · cases r with
    | dct l => exact ⟨a, _, rfl, ho, rfl, l⟩
/-- equal as data -/
def EqPl (K : PySem.W.Frag) (H : Hp) (x y : V) : Prop := ∃ d e, Dp K H x d ∧ Dp K H y e ∧ d.plain = true ∧ e.plain = true ∧ min d.depth e.depth ≤ 60 ∧ PyData.eqv d e = true
theorem vals_alike {K : PySem.W.Frag} (s : Same G H) : ∀ {ks ls : List (Key × V)} {vs ws : List D}, ks.map (·.1) = ls.map (·.1) → (ls.map (·.1)).Nodup → RpL K G (ks.map (·.2)) vs → RpL K G (ls.map (·.2)) ws → pairEqD vs ws = true →
    ks.length = ls.length ∧ ∀ p ∈ ks, ∃ u, valV ls p.1 = some u ∧ EqPl K H p.2 u
  | [], [], _, _, _, _, _, _, _ => ⟨rfl, fun p h => nomatch h⟩
  | p :: ks, q :: ls, v :: vs, w :: ws, e, nd, .cons a1 a2, .cons b1 b2, h => by
    rw [pairEqD, Bool.and_eq_true, Bool.and_eq_true] at h
    obtain ⟨⟨h1, h2⟩, h3⟩ := h
    simp only [List.map_cons, List.cons.injEq] at e
    simp only [List.map_cons, List.nodup_cons] at nd
    obtain ⟨i1, i2⟩ := vals_alike s e.2 nd.2 a2 b2 h3
    unfold eqOk at h1
    rw [Bool.and_eq_true, Bool.and_eq_true, decide_eq_true_eq] at h1
    refine ⟨by simp [i1], fun x hx => ?_⟩
    rcases List.mem_cons.mp hx with hx | hx
    · rw [hx]
      exact ⟨q.2, valV_pos e.1.symm, _, _, dp_of (a1.mono s) h1.1.1, dp_of (b1.mono s) h1.1.2, h1.1.1, h1.1.2, h1.2, h2⟩
    · obtain ⟨u, u1, u2⟩ := i2 x hx
      refine ⟨u, ?_, u2⟩
      have m : x.1 ∈ ls.map (·.1) := by rw [← e.2]; exact List.mem_map.mpr ⟨x, hx, rfl⟩
      rw [valV_neg (fun z => nd.1 (z ▸ m)), u1]
theorem opD_deq (hu : X.A.units + 64 < cLine) : OpD X (compareOp .Eq) deqD := by
  refine opD_of fun G H x y d e z Q ok px py hg q => ?_
  have fin : ∀ {v : V}, Rp X.K G v z → Q v H := fun r => q _ _ _ (Stp.refl ok) r
  unfold deqD at hg
  split at hg
  · obtain ⟨g1, g2⟩ := guard_ok hg
    cases g2
    simp only [Bool.and_eq_true, decide_eq_true_eq] at g1
    obtain ⟨⟨rfl, nd⟩, pe⟩ := g1
    obtain ⟨a, kvs, rfl, ha, hk, la⟩ := px.dctF ok.s
    obtain ⟨b, lvs, rfl, hb, hk2, lb⟩ := py.dctF ok.s
    obtain ⟨l1, l2⟩ := vals_alike (K := X.K) ok.s (hk.trans hk2.symm) (by rw [hk2]; exact nd) la lb pe
    refine ⟨fun x y H' Q => ∃ a b ks ls, x = .ref a ∧ y = .ref b ∧ H' a = some (.dK ks) ∧ H' b = some (.dK ls) ∧ ks.length = ls.length ∧ (∀ p ∈ ks, ∃ u, valV ls p.1 = some u ∧ EqPl X.K H' p.2 u) ∧ Q (.bl true) H', ?_, a, b, kvs, lvs, rfl, rfl, ha, hb, l1, l2, fin (.bl _)⟩
    intro pins s σ H' x y v u Q I rx ry h
    obtain ⟨a, b, ks, ls, rfl, rfl, ea, eb, hl, hp, q⟩ := h
    exact eqR_run I (A := X.A) (F := EqPl X.K H') (by omega) (fun x y v u h rx ry => by
      obtain ⟨d, e, hd, he, sd, se, hm, hq⟩ := h
      obtain ⟨as, r1⟩ := Dp.reads I d x v hd rx
      obtain ⟨bs, r2⟩ := Dp.reads I e y u he ry
      have := SeqAt.eqAt_plain d e X.A.in1 s v u as bs r1 r2 sd se (by show X.A.units + 1 + _ < cLine; omega)
      rw [hq] at this
      exact this.eqP) (.inr ⟨a, b, ks, ls, rfl, rfl, ea, eb, hl, hp⟩) rx ry _ _ ⟨.bl true, H', I, rfl, q⟩
  · cases hg
end
section
variable {T : Tbl} {fn : Nat → List D → R D} {W : WX} {cls : Nat → Value} {d : Bool} {sc : Scope} {X : Cx}
theorem deqD_ne (x y : D) : ∀ c, deqD x y ≠ .exc c := fun c h => by
  unfold deqD at h
  split at h
  · exact absurd h (ne_guard ne_ok c)
  · cases h
theorem snd_deq (C : Ctx T fn W cls d sc X) {a b : Ex} {l r : Expr} {p : Pos} (hm : behindInMarks .Eq r = false) (ha : Snd T fn W cls X a l) (hb : Snd T fn W cls X b r) : Snd T fn W cls X (.deq a b) (.Compare l [.Eq] [r] p) := by
  obtain ⟨R, hR, hq⟩ := opD_deq (X := X) C.un
  refine .cmp (pe_cmpR hR ha.pe hb.pe hm) (pt_cmpR hR ha.pe hb.pe hm) (fun σ H Q h => ?_) rfl
  obtain ⟨G, ρ, F, h⟩ := h
  exact tOp_of (k := .S) F deqD_ne hq h
end
end Den
namespace Den
open PySem PySem.Spec PyProof.Rows L2
section
variable {T : Tbl} {fn : Nat → List D → R D} {W : WX} {cls : Nat → Value} {d : Bool} {sc : Scope} {X : Cx}
theorem tgIn_ok {own : List Nat} {tg : Tg} (h : tgIn own tg = true) : ∀ i ∈ tgS tg, i ∈ own := by
  cases tg with
  | one i =>
    intro j hj
    have e : j = i := by simpa [tgS] using hj
    rw [e]
    simpa [tgIn] using h
  | many is =>
    intro j hj
    have := List.all_eq_true.mp h j hj
    simpa using this
  | nest is j =>
    intro i hi
    unfold tgIn at h
    rw [Bool.and_eq_true] at h
    rcases List.mem_cons.mp hi with e | hi
    · rw [e]; simpa using h.2
    · have := List.all_eq_true.mp h.1 i hi
      simpa using this
theorem ownP_snd (own : List Nat) : (ownP T own).map (·.2) = own := by
  unfold ownP
  rw [List.map_map]
  have : ((fun x : Str × Nat => x.2) ∘ fun i => (T.N.getD i "", i)) = id := rfl
  rw [this, List.map_id]
/-- what is wanted of the turns that are still to come; done: the items so far -/
def RestW (W : WX) (cls : Nat → Value) (K : PySem.W.Frag) (G H : Hp) (σ : L2.St) (Q : VK) (done : List D) (r : R (List D)) : Prop := Want W cls K .T (r.bind fun ds => .ok (.lst (done ++ ds))) G H σ Q
theorem bindT_nex (ρ : Env) (tg : Tg) (z : D) : ∀ c, bindT ρ tg z ≠ .exc c := fun c => by
  have sv : ∀ (is : List Nat) (ds : List D) (ρ : Env), setVs ρ is ds ≠ .exc c := fun is => by
    induction is with
    | nil => intro ds ρ; cases ds <;> (unfold setVs; exact fun q => nomatch q)
    | cons i is ih =>
      intro ds ρ
      cases ds with
      | nil => unfold setVs; exact fun q => nomatch q
      | cons d ds => unfold setVs; exact ih ds _
  unfold bindT
  split
  · exact fun q => nomatch q
  · intro q
    unfold R.guard at q
    split at q
    · exact sv _ _ _ q
    · cases q
  · intro q
    unfold R.guard at q
    split at q
    · exact sv _ _ _ q
    · cases q
  · exact fun q => nomatch q
  · intro q
    unfold R.guard at q
    split at q
    · rename_i is j ds w _
      cases e : setVs ρ is ds with
      | ok r => rw [e] at q; cases q
      | exc k => exact sv _ _ _ (by rw [e] at q ⊢; cases q; rfl)
      | bad => rw [e] at q; cases q
    · cases q
  · exact fun q => nomatch q
theorem comp_imp {it : Itr} {tg : Tg} {own : List Nat} {a : Ex} (hin : tgIn own tg = true) (hown : own.all (fun i => !T.isOwn i) = true) (na : nB T a = true) {σ : L2.St} {H : Hp} {Q : VK} (h : tE T fn W cls X.K (.comp it tg own a) σ H Q) :
    tLc (tIt T fn W cls X.K it) (gT X.K tg) tYes (tE T fn (fun cl d _ H' => W cl d σ H') cls X.K a) own σ H Q := by
  have ho : ∀ j ∈ own, T.isOwn j = false := fun j hj => by
    have := List.all_eq_true.mp hown j hj
    cases q : T.isOwn j <;> simp_all
  obtain ⟨G, ρ, F, h⟩ := h
  refine ⟨G, ρ, F, ?_⟩
  have h : Want W cls X.K .T ((evi fn it ρ).bind fun xs => .guard (decide (xs.length ≤ Line)) ((compL (fun x => (bindT (wipeE ρ own) tg x).bind fun ρ' => (ev fn a ρ').bind fun d => .ok (some d)) xs).bind fun ds => .ok (.lst ds))) G H σ Q := h
  cases e : evi fn it ρ with
  | exc c => rw [e] at h; exact h
  | bad => rw [e] at h; exact h
  | ok xs =>
    rw [e, R.bind_ok] at h
    by_cases hxs : xs.length ≤ Line
    · rw [decide_eq_true hxs, R.guard_true] at h
      intro J H1 G1 t1 yl D nD
      have F1 := F.step t1
      have gD : G1 D = none := t1.s.free nD
      have h : RestW W cls X.K G1 H1 σ Q [] (compL (fun x => (bindT (wipeE ρ own) tg x).bind fun ρ' => (ev fn a ρ').bind fun d => .ok (some d)) xs) := h.shift t1
      refine ⟨fun i m Hc => m = xs.length - i ∧ i ≤ xs.length ∧ ∃ Gc acc done, Stp G1 H1 Gc Hc ∧ Hc D = some (.lst acc) ∧ Gc D = none ∧ RpL X.K Gc acc done ∧ done.length ≤ i ∧ RestW W cls X.K G1 H1 σ Q done (compL (fun x => (bindT (wipeE ρ own) tg x).bind fun ρ' => (ev fn a ρ').bind fun d => .ok (some d)) (xs.drop i)),
        ⟨xs.length, by omega, Nat.zero_le _, G1, [], [], Stp.newO F1.ok nD trivial, upd_same, gD, .nil, Nat.le_refl _, by rw [List.drop_zero]; exact h⟩, ?_⟩
      rintro i m Hc ⟨rfl, hi, Gc, acc, done, tc, hD, hgD, hr, hdl, rest⟩
      obtain ⟨y1, y2⟩ := yl Gc Hc tc.g tc.o (.inr tc.h)
      by_cases hlt : i < xs.length
      · obtain ⟨go, yy⟩ := y1 i _ (List.getElem?_eq_getElem hlt)
        rw [List.drop_eq_getElem_cons hlt, compL] at rest
        refine .inr ⟨go, fun H' => ∃ G' acc' done', Stp G1 H1 G' H' ∧ H' D = some (.lst acc') ∧ G' D = none ∧ RpL X.K G' acc' done' ∧ done'.length ≤ i + 1 ∧ RestW W cls X.K G1 H1 σ Q done' (compL (fun x => (bindT (wipeE ρ own) tg x).bind fun ρ' => (ev fn a ρ').bind fun d => .ok (some d)) (xs.drop (i + 1))), fun H' hN => ?_, fun x H' hy => ?_⟩
        · obtain ⟨G', acc', done', a1, a2, a3, a4, a5, a6⟩ := hN
          exact ⟨xs.length - (i + 1), by omega, rfl, hlt, G', acc', done', a1, a2, a3, a4, a5, a6⟩
        · obtain ⟨G', t', rx⟩ := yy x H' hy
          have tt' := tc.trans t'
          have Fw := ((F1.step tt').wipe own)
          have hD' : H' D = some (.lst acc) := t'.h _ _ hD
          have hg' : G' D = none := t'.k _ _ hD hgD
          cases e1 : bindT (wipeE ρ own) tg xs[i] with
          | exc c => exact absurd e1 (bindT_nex _ _ _ c)
          | bad => rw [e1] at rest; exact rest.elim
          | ok ρ' =>
            rw [e1, R.bind_ok] at rest
            refine gT_read (fun j hj => ho j (tgIn_ok hin j hj)) Fw rx e1 fun σ2 F2 hw => ?_
            refine ⟨by rw [hw own (tgIn_ok hin), wipe_idem], ?_⟩
            show tE T fn _ cls X.K a σ2 H' fun y H4 => ∃ acc, H4 D = some (.lst acc) ∧ acc.length < sizeLine ∧ _
            refine tE_S na F2 ?_
            cases e2 : ev fn a ρ' with
            | bad => rw [e2] at rest; exact rest.elim
            | exc c =>
              rw [e2] at rest
              exact fun H4 G4 t4 => rest H4 G4 (tt'.trans t4)
            | ok w =>
              rw [e2, R.bind_ok, R.bind_ok] at rest
              intro v H4 G4 t4 r4
              have t5 := tt'.trans t4
              have hD4 : H4 D = some (.lst acc) := t4.h _ _ hD'
              have hg4 : G4 D = none := t4.k _ _ hD' hg'
              have hl := hr.len
              have r4 : Rp X.K G4 v w := r4
              refine ⟨acc, hD4, by rw [sizeLn]; omega, G4, acc ++ [v], done ++ [w], ⟨fun b u q => ?_, t5.g, ⟨fun b u q => ?_, fun b u q n => ?_⟩, t5.k⟩, upd_same, hg4, ((hr.mono t'.g).mono t4.g).append (.cons r4 .nil), by rw [List.length_append]; exact Nat.succ_le_succ hdl, ?_⟩
              · rw [upd_ne (ne_of_none q nD)]; exact t5.h _ _ q
              · rw [upd_ne (ne_of_none q hg4)]; exact t5.o.s _ _ q
              · by_cases hb : b = D
                · subst hb; rw [upd_same] at q; cases q; exact trivial
                · rw [upd_ne hb] at q; exact t5.o.z _ _ q n
              · unfold RestW at rest ⊢
                generalize compL (fun x => (bindT (wipeE ρ own) tg x).bind fun ρ' => (ev fn a ρ').bind fun d => .ok (some d)) (xs.drop (i + 1)) = rs at rest ⊢
                cases rs with
                | ok l => rw [R.bind_ok, R.bind_ok] at rest; rw [R.bind_ok, List.append_assoc]; exact rest
                | exc c => exact rest
                | bad => exact rest
      · have ei : i = xs.length := by omega
        subst ei
        refine .inl ⟨y2, ?_⟩
        rw [List.drop_length] at rest
        have rest : Want W cls X.K .T (.ok (.lst (done ++ []))) G1 H1 σ Q := rest
        rw [List.append_nil] at rest
        exact rest _ _ _ tc ⟨D, .lst acc, rfl, nD, hD, hgD, .lst hr⟩
    · rw [decide_eq_false hxs] at h
      exact h.elim
theorem snd_comp (C : Ctx T fn W cls d sc X) {it : Itr} {tg : Tg} {own : List Nat} {a : Ex} {l g i : Expr} {scope : Scope} {p : Pos} (hi : PI X g i (tIt T fn W cls X.K it)) (pi : plE i = true) (htg : mTg T false (relS scope sc) tg g = true) (hin : tgIn own tg = true)
    (hown : own.all (fun i => !T.isOwn i) = true) (hblk : blkC T.N sc scope (ownP T own) = true) (na : nB T a = true)
    (ha : ∀ (V : WX) (s : Shared) (H : Hp) (c : Addr) (cl : List (Str × Addr)) (fp : List Addr), Snd T fn V cls (Cx.blkX X s H scope (compEnvC scope cl c X.env) fp V) a l) :
    Snd T fn W cls X (.comp it tg own a) (.ListComp l [⟨g, i, [], 0⟩] scope p) := by
  refine .of (pe_imp (pe_lcx (W := W) (own := ownP T own) (g := gT X.K tg) (tt := tYes) (te := fun V => tE T fn V cls X.K a) C.calm (by rw [C.hN]; exact C.nd) C.frm C.tkh hi (blkOk_by (by rw [C.hN, C.hs]; exact hblk))
    (fun s H c cl fp => (tg_ok (C.blk s H scope c cl fp) htg).1) (fun _ _ _ _ _ => pts_nil) (fun V s H c cl fp => (ha V s H c cl fp).pe) (plE_set pi)) fun σ H Q h => ?_) (fun _ => rfl) rfl
  rw [ownP_snd]
  exact comp_imp hin hown na h
theorem compIf_imp {it : Itr} {tg : Tg} {own : List Nat} {c a : Ex} (hin : tgIn own tg = true) (hown : own.all (fun i => !T.isOwn i) = true) (na : nB T a = true) {σ : L2.St} {H : Hp} {Q : VK} (h : tE T fn W cls X.K (.compIf it tg own c a) σ H Q) :
    tLc (tIt T fn W cls X.K it) (gT X.K tg) (tT T fn W0 cls X.K c) (tE T fn W0 cls X.K a) own σ H Q := by
  have ho : ∀ j ∈ own, T.isOwn j = false := fun j hj => by
    have := List.all_eq_true.mp hown j hj
    cases q : T.isOwn j <;> simp_all
  obtain ⟨G, ρ, F, h⟩ := h
  refine lc_read ho F h fun G1 H1 x z o P F1 r hf hP => ?_
  obtain ⟨ρ', e1, hf1⟩ := bind_okE hf
  obtain ⟨w, e2, hf2⟩ := bind_okE hf1
  obtain ⟨b, e3, hf3⟩ := bind_okE hf2
  have ew : w = .bl b := by
    cases w with
    | bl k => cases e3; rfl
    | _ => cases e3
  subst ew
  refine gT_read (fun j hj => ho j (tgIn_ok hin j hj)) F1 r e1 fun σ2 F2 hw => ?_
  refine ⟨by rw [hw own (tgIn_ok hin), wipe_idem], ?_⟩
  refine ⟨G1, ρ', F2, ?_⟩
  rw [e2]
  intro H3 G3 t3
  cases b with
  | true =>
    obtain ⟨w2, e4, hf4⟩ := bind_okE (show ((ev fn a ρ').bind fun d => R.ok (some d)) = R.ok o from hf3)
    cases hf4
    show tE T fn W0 cls X.K a σ2 H3 fun y H4 => P (some y) H4
    refine tE_S na (F2.step t3) ?_
    rw [e4]
    exact fun v H4 G4 t4 r4 => hP (some v) H4 G4 (t3.trans t4) r4
  | false =>
    cases (show R.ok none = R.ok o from hf3)
    exact hP none H3 G3 t3 trivial
theorem snd_compIf (C : Ctx T fn W cls d sc X) {it : Itr} {tg : Tg} {own : List Nat} {c a : Ex} {l g i t : Expr} {scope : Scope} {p : Pos} (hi : PI X g i (tIt T fn W cls X.K it)) (pi : plE i = true) (htg : mTg T false (relS scope sc) tg g = true) (hin : tgIn own tg = true)
    (hown : own.all (fun i => !T.isOwn i) = true) (hblk : blkC T.N sc scope (ownP T own) = true) (na : nB T a = true) (nt : ntI t = true)
    (hc : ∀ (s : Shared) (H : Hp) (c' : Addr) (cl : List (Str × Addr)) (fp : List Addr), Snd T fn W0 cls (X.blk s H scope (compEnvC scope cl c' X.env) fp) c t)
    (ha : ∀ (s : Shared) (H : Hp) (c' : Addr) (cl : List (Str × Addr)) (fp : List Addr), Snd T fn W0 cls (X.blk s H scope (compEnvC scope cl c' X.env) fp) a l) :
    Snd T fn W cls X (.compIf it tg own c a) (.ListComp l [⟨g, i, [t], 0⟩] scope p) := by
  refine .of (pe_imp (pe_lc (own := ownP T own) (g := gT X.K tg) (tt := tT T fn W0 cls X.K c) (te := tE T fn W0 cls X.K a) C.calm (by rw [C.hN]; exact C.nd) hi (blkOk_by (by rw [C.hN, C.hs]; exact hblk))
    (fun s H c cl fp => (tg_ok (C.blk s H scope c cl fp) htg).1) (fun s H c' cl fp => pts_one ((hc s H c' cl fp).pt nt)) (fun s H c cl fp => (ha s H c cl fp).pe) (plE_set pi)) fun σ H Q h => ?_) (fun _ => rfl) rfl
  rw [ownP_snd]
  exact compIf_imp hin hown na h
mutual
theorem snd_all : ∀ (x : Ex) {W : WX} {d : Bool} {sc : Scope} {X : Cx} (C : Ctx T fn W cls d sc X) {e : Expr}, mE T x sc e = true → Snd T fn W cls X x e
  | .var i, W, d, sc, X, C, e, h => by
    cases e with
    | Name x p =>
      simp only [mE, Bool.and_eq_true, decide_eq_true_eq] at h
      exact snd_var C h.1.1 h.1.2 h.2
    | _ => cases h
  | .cst z, W, d, sc, X, C, e, h => by
    cases e with
    | Constant c k p =>
      cases z with
      | non =>
        cases c with
        | none => exact snd_cst C pe_non (fun _ => .non) (fun _ => rfl) rfl
        | _ => cases h
      | bl b =>
        cases c with
        | bool k =>
          have e : b = k := of_decide_eq_true h
          subst e
          exact snd_cst C pe_bl (fun _ => .bl b) (fun _ => rfl) rfl
        | _ => cases h
      | int i =>
        cases c with
        | int k =>
          have e : i = k := of_decide_eq_true h
          subst e
          exact snd_cst C pe_int (fun _ => .int i) (fun _ => rfl) rfl
        | _ => cases h
      | str s =>
        cases c with
        | str k =>
          have e : s = k := of_decide_eq_true h
          subst e
          exact snd_cst C pe_str (fun _ => .str s) (fun _ => rfl) rfl
        | _ => cases h
      | _ => cases c <;> cases h
    | _ => cases h
  | .gint y i, W, d, sc, X, C, e, h => by
    cases e with
    | Name x p =>
      simp only [mE, Bool.and_eq_true, decide_eq_true_eq] at h
      obtain ⟨⟨⟨rfl, h2⟩, h3⟩, h4⟩ := h
      exact snd_gint C h2 h3 h4
    | _ => cases h
  | .gstr y s, W, d, sc, X, C, e, h => by
    cases e with
    | Name x p =>
      simp only [mE, Bool.and_eq_true, decide_eq_true_eq] at h
      obtain ⟨⟨⟨rfl, h2⟩, h3⟩, h4⟩ := h
      exact snd_gstr C h2 h3 h4
    | _ => cases h
  | .gwds y ws, W, d, sc, X, C, e, h => by
    cases e with
    | Name x p =>
      simp only [mE, Bool.and_eq_true, decide_eq_true_eq] at h
      obtain ⟨⟨⟨rfl, h2⟩, h3⟩, h4⟩ := h
      exact snd_gwds C h2 h3 h4
    | _ => cases h
  | .bin o a b, W, d, sc, X, C, e, h => by
    cases e with
    | BinOp l op r p =>
      simp only [mE, Bool.and_eq_true, decide_eq_true_eq] at h
      obtain ⟨⟨rfl, h2⟩, h3⟩ := h
      exact snd_bin C (snd_all a C h2) (snd_all b C h3)
    | _ => cases h
  | .neg a, W, d, sc, X, C, e, h => by
    cases e with
    | UnaryOp op l p =>
      simp only [mE, Bool.and_eq_true, decide_eq_true_eq] at h
      obtain ⟨rfl, h2⟩ := h
      exact snd_neg C (snd_all a C h2)
    | _ => cases h
  | .cmp o a b, W, d, sc, X, C, e, h => by
    unfold mE at h
    split at h
    · simp only [Bool.and_eq_true, decide_eq_true_eq] at h
      obtain ⟨⟨⟨rfl, h2⟩, h3⟩, h4⟩ := h
      exact snd_cmp C (by simpa using h4) (snd_all a C h2) (snd_all b C h3)
    · cases h
  | .isN a, W, d, sc, X, C, e, h => by
    unfold mE at h
    split at h
    · simp only [Bool.and_eq_true, decide_eq_true_eq] at h
      obtain ⟨rfl, h2⟩ := h
      exact snd_isN C (snd_all a C h2)
    · cases h
  | .notN a, W, d, sc, X, C, e, h => by
    unfold mE at h
    split at h
    · simp only [Bool.and_eq_true, decide_eq_true_eq] at h
      obtain ⟨rfl, h2⟩ := h
      exact snd_notN C (snd_all a C h2)
    · cases h
  | .chain o o' a b c, W, d, sc, X, C, e, h => by
    unfold mE at h
    split at h
    · simp only [Bool.and_eq_true, decide_eq_true_eq] at h
      obtain ⟨⟨⟨⟨⟨rfl, rfl⟩, h2⟩, h3⟩, h4⟩, h5⟩ := h
      exact snd_chain C (by simpa using h5) (snd_all a C h2) (snd_all b C h3) (snd_all c C h4)
    · cases h
  | .and_ a b, W, d, sc, X, C, e, h => by
    unfold mE at h
    split at h
    · rename_i x y r pos
      simp only [Bool.and_eq_true] at h
      obtain ⟨⟨⟨h1, h2⟩, h3⟩, h4⟩ := h
      refine snd_and C (snd_all a C h1) h3 ?_
      cases r with
      | nil => exact .inl ⟨y, snd_all b C h2, rfl, rfl, h4⟩
      | cons z r' => exact .inr ⟨_, snd_all b C h2, rfl⟩
    · cases h
  | .or_ a b, W, d, sc, X, C, e, h => by
    unfold mE at h
    split at h
    · rename_i x y r pos
      simp only [Bool.and_eq_true] at h
      obtain ⟨⟨⟨h1, h2⟩, h3⟩, h4⟩ := h
      refine snd_or C (snd_all a C h1) h3 ?_
      cases r with
      | nil => exact .inl ⟨y, snd_all b C h2, rfl, rfl, h4⟩
      | cons z r' => exact .inr ⟨_, snd_all b C h2, rfl⟩
    · cases h
  | .not_ a, W, d, sc, X, C, e, h => by
    cases e with
    | UnaryOp op l p =>
      simp only [mE, Bool.and_eq_true, decide_eq_true_eq] at h
      obtain ⟨⟨rfl, h2⟩, h3⟩ := h
      exact snd_not C (snd_all a C h2) h3
    | _ => cases h
  | .ite c a b, W, d, sc, X, C, e, h => by
    cases e with
    | IfExp t l r p =>
      simp only [mE, Bool.and_eq_true] at h
      obtain ⟨⟨⟨⟨⟨h1, h2⟩, h3⟩, h4⟩, h5⟩, h6⟩ := h
      exact snd_ite C (snd_all c C h1) h2 (snd_all a C h3) (snd_all b C h4) h5 h6
    | _ => cases h
  | .tup es, W, d, sc, X, C, e, h => by
    cases e with
    | Tuple l k p =>
      simp only [mE, Bool.and_eq_true, decide_eq_true_eq] at h
      exact snd_tup C (snds_all es C h.1) h.2 fun ρ zs e => evs_len h.1 e
    | _ => cases h
  | .lst es, W, d, sc, X, C, e, h => by
    cases e with
    | List l p =>
      simp only [mE, Bool.and_eq_true, decide_eq_true_eq] at h
      exact snd_lst C (snds_all es C h.1) h.2 fun ρ zs e => evs_len h.1 e
    | _ => cases h
  | .ix a b, W, d, sc, X, C, e, h => by
    cases e with
    | Subscript l r p =>
      simp only [mE, Bool.and_eq_true] at h
      exact snd_ix C (snd_all a C h.1.1) (snd_all b C h.1.2) h.2
    | _ => cases h
  | .slF a lo, W, d, sc, X, C, e, h => by
    unfold mE at h
    split at h
    · simp only [Bool.and_eq_true] at h
      exact snd_slF C (snd_all a C h.1) (snd_all lo C h.2)
    · cases h
  | .slT a hi, W, d, sc, X, C, e, h => by
    unfold mE at h
    split at h
    · simp only [Bool.and_eq_true] at h
      exact snd_slT C (snd_all a C h.1) (snd_all hi C h.2)
    · cases h
  | .slB a lo hi, W, d, sc, X, C, e, h => by
    unfold mE at h
    split at h
    · simp only [Bool.and_eq_true] at h
      exact snd_slB C (snd_all a C h.1.1) (snd_all lo C h.1.2) (snd_all hi C h.2)
    · cases h
  | .call f es, W, d, sc, X, C, e, h => by
    unfold mE at h
    split at h
    · rename_i x p l ls p2
      simp only [Bool.and_eq_true] at h
      obtain ⟨⟨⟨h1, h2⟩, h3⟩, h4⟩ := h
      split at h1
      · rename_i y n fr hf
        simp only [Bool.and_eq_true, decide_eq_true_eq] at h1
        obtain ⟨rfl, rfl⟩ := h1
        exact snd_call C hf rfl h2 h3 (snds_all es C h4) (fun ρ zs e => evs_len h4 e) (mEs_pl h4)
      · cases h1
    · cases h
  | .callB f es, W, d, sc, X, C, e, h => by
    unfold mE at h
    split at h
    · rename_i x p l ls p2
      simp only [Bool.and_eq_true] at h
      obtain ⟨⟨⟨h1, h2⟩, h3⟩, h4⟩ := h
      split at h1
      · rename_i y n fr hf
        simp only [Bool.and_eq_true, decide_eq_true_eq] at h1
        obtain ⟨rfl, rfl⟩ := h1
        exact snd_callB C hf rfl h2 h3 (snds_all es C h4) (fun ρ zs e => evs_len h4 e) (mEs_pl h4)
      · cases h1
    · cases h
  | .bi b es, W, d, sc, X, C, e, h => by
    unfold mE at h
    split at h
    · simp only [Bool.and_eq_true, decide_eq_true_eq] at h
      obtain ⟨⟨rfl, h2⟩, h3⟩ := h
      exact snd_bi C h2 (snds_all es C h3) (mEs_pl h3)
    · cases h
  | .isi a t, W, d, sc, X, C, e, h => by
    unfold mE at h
    split at h
    · simp only [Bool.and_eq_true, decide_eq_true_eq] at h
      obtain ⟨⟨⟨⟨⟨rfl, h2⟩, rfl⟩, h4⟩, h5⟩, h6⟩ := h
      exact snd_isi C h2 h4 (snd_all a C h5) h6
    · cases h
  | .comp it tg own a, W, d, sc, X, C, e, h => by
    unfold mE at h
    split at h
    · rename_i l g i ifs k scope p
      simp only [Bool.and_eq_true, decide_eq_true_eq] at h
      obtain ⟨⟨⟨⟨⟨⟨⟨⟨⟨h1, rfl⟩, h3⟩, h4⟩, h5⟩, h6⟩, h7⟩, h8⟩, h9⟩, h10⟩ := h
      cases ifs with
      | cons _ _ => cases h1
      | nil => exact snd_comp C (sndi_all it C h3) h4 h5 h6 h7 h8 h10 fun V s H c cl fp => snd_all a (C.blkX s H scope c cl fp V) h9
    · cases h
  | .compIf it tg own c a, W, d, sc, X, C, e, h => by
    unfold mE at h
    split at h
    · rename_i l g i ifs k scope p
      simp only [Bool.and_eq_true, decide_eq_true_eq] at h
      obtain ⟨⟨⟨⟨⟨⟨⟨⟨⟨h1, rfl⟩, h3⟩, h4⟩, h5⟩, h6⟩, h7⟩, h8⟩, h9⟩, h10⟩ := h
      match ifs, h1 with
      | [t], h1 =>
        simp only [Bool.and_eq_true] at h1
        exact snd_compIf C (sndi_all it C h3) h4 h5 h6 h7 h8 h10 h1.2 (fun s H c' cl fp => snd_all c (C.blk s H scope c' cl fp) h1.1) fun s H c' cl fp => snd_all a (C.blk s H scope c' cl fp) h9
    · cases h
  | .sset a, W, d, sc, X, C, e, h => by
    unfold mE at h
    split at h
    · simp only [Bool.and_eq_true, decide_eq_true_eq] at h
      obtain ⟨⟨⟨⟨⟨rfl, h2⟩, rfl⟩, h4⟩, h5⟩, h6⟩ := h
      exact snd_sset C h2 h4 (snd_all a C h5) h6
    · cases h
  | .lset a, W, d, sc, X, C, e, h => by
    unfold mE at h
    split at h
    · simp only [Bool.and_eq_true, decide_eq_true_eq] at h
      obtain ⟨⟨⟨⟨⟨rfl, h2⟩, rfl⟩, h4⟩, h5⟩, h6⟩ := h
      exact snd_lset C h2 h4 (snd_all a C h5) h6
    · cases h
  | .lzip es, W, d, sc, X, C, e, h => by
    unfold mE at h
    split at h
    · simp only [Bool.and_eq_true, decide_eq_true_eq] at h
      obtain ⟨⟨⟨⟨rfl, h2⟩, rfl⟩, h4⟩, h5⟩ := h
      exact snd_lzip C h2 h4 (snds_all es C h5) (mEs_pl h5)
    · cases h
  | .lrng a b, W, d, sc, X, C, e, h => by
    unfold mE at h
    split at h
    · simp only [Bool.and_eq_true, decide_eq_true_eq] at h
      obtain ⟨⟨⟨⟨⟨⟨⟨rfl, h2⟩, rfl⟩, h4⟩, h5⟩, h6⟩, h7⟩, h8⟩ := h
      exact snd_lrng C h2 h4 (snd_all a C h5) h6 (snd_all b C h7) h8
    · cases h
  | .dmin mx a, W, d, sc, X, C, e, h => by
    unfold mE at h
    split at h
    · simp only [Bool.and_eq_true, decide_eq_true_eq] at h
      obtain ⟨⟨⟨⟨rfl, h2⟩, rfl⟩, h4⟩, h5⟩ := h
      cases mx with
      | true => exact snd_dmin (mx := true) C h2 (snd_all a C h4) h5
      | false => exact snd_dmin (mx := false) C h2 (snd_all a C h4) h5
    · cases h
  | .cat a b, W, d, sc, X, C, e, h => by
    cases e with
    | BinOp l op r p =>
      simp only [mE, Bool.and_eq_true, decide_eq_true_eq] at h
      obtain ⟨⟨rfl, h2⟩, h3⟩ := h
      exact snd_cat C (snd_all a C h2) (snd_all b C h3)
    | _ => cases h
  | .call0 f, W, d, sc, X, C, e, h => by
    unfold mE at h
    split at h
    · rename_i x p p2
      simp only [Bool.and_eq_true] at h
      obtain ⟨⟨h1, h2⟩, h3⟩ := h
      split at h1
      · rename_i y n fr hf
        simp only [Bool.and_eq_true, decide_eq_true_eq] at h1
        obtain ⟨rfl, rfl⟩ := h1
        exact snd_call0 C hf h2 h3
      · cases h1
    · cases h
  | .dnew t, W, d, sc, X, C, e, h => by
    unfold mE at h
    split at h
    · exact snd_dnew C
    · cases h
  | .repL es n, W, d, sc, X, C, e, h => by
    unfold mE at h
    split at h
    · simp only [Bool.and_eq_true, decide_eq_true_eq] at h
      obtain ⟨⟨⟨h1, h2⟩, h3⟩, h4⟩ := h
      subst h1 h2
      exact snd_repL C (snds_all es C h3) h4 fun ρ zs e => evs_len h3 e
    · cases h
  | .dlit k v, W, d, sc, X, C, e, h => by
    unfold mE at h
    split at h
    · simp only [Bool.and_eq_true] at h
      exact snd_dlit C (snd_all k C h.1.1) (snd_all v C h.1.2) h.2
    · cases h
  | .tm m a b, W, d, sc, X, C, e, h => by
    unfold mE at h
    split at h
    · simp only [Bool.and_eq_true, decide_eq_true_eq] at h
      obtain ⟨⟨⟨⟨⟨rfl, h2⟩, h3⟩, h4⟩, h5⟩, h6⟩ := h
      exact snd_tm C h3 h2 (snd_all a C h4) (snd_all b C h5) h6
    · cases h
  | .dget1 i k, W, d, sc, X, C, e, h => by
    unfold mE at h
    split at h
    · simp only [Bool.and_eq_true, decide_eq_true_eq] at h
      obtain ⟨⟨⟨⟨rfl, h2⟩, h3⟩, h4⟩, h5⟩ := h
      exact snd_dget1 C h3 h2 (snd_all k C h4) h5
    · cases h
  | .dget2 i k z, W, d, sc, X, C, e, h => by
    unfold mE at h
    split at h
    · simp only [Bool.and_eq_true, decide_eq_true_eq] at h
      obtain ⟨⟨⟨⟨⟨⟨⟨rfl, h2⟩, h3⟩, h4⟩, h5⟩, h6⟩, h7⟩, h8⟩ := h
      exact snd_dget2 C h3 h2 (snd_all k C h4) h5 (snd_all z C h6) h7 h8
    · cases h
  | .fld a f, W, d, sc, X, C, e, h => by
    unfold mE at h
    split at h
    · simp only [Bool.and_eq_true, decide_eq_true_eq] at h
      obtain ⟨⟨rfl, h2⟩, h3⟩ := h
      exact snd_fld C h2 (snd_all a C h3)
    · cases h
  | .meth b m a es, W, d, sc, X, C, e, h => by
    unfold mE at h
    split at h
    · simp only [Bool.and_eq_true, decide_eq_true_eq] at h
      obtain ⟨⟨⟨⟨⟨⟨⟨h1, rfl⟩, h3⟩, h4⟩, h5⟩, h6⟩, h7⟩, h8⟩ := h
      split at h1
      · rename_i n fr hf
        exact snd_meth C hf (of_decide_eq_true h1) h8 h3 h4 h5 (snd_all a C h6) h7 (snds_all es C h7)
      · cases h1
    · cases h
  | .make c es, W, d, sc, X, C, e, h => by
    unfold mE at h
    split at h
    · simp only [Bool.and_eq_true] at h
      obtain ⟨⟨⟨h1, h2⟩, h3⟩, h4⟩ := h
      split at h1
      · rename_i y n bo hf
        simp only [Bool.and_eq_true, decide_eq_true_eq] at h1
        obtain ⟨⟨rfl, h5⟩, h6⟩ := h1
        obtain rfl : bo = false := by cases bo <;> simp_all
        exact snd_make C hf h5 h2 h3 h4 (snds_all es C h4)
      · cases h1
    · cases h
  | .isc a c, W, d, sc, X, C, e, h => by
    unfold mE at h
    split at h
    · simp only [Bool.and_eq_true, decide_eq_true_eq] at h
      obtain ⟨⟨⟨⟨⟨⟨⟨rfl, h2⟩, rfl⟩, h4⟩, h5⟩, h6⟩, h7⟩, h8⟩ := h
      exact snd_isc C h2 h5 h6 h4 (snd_all a C h7) h8
    · cases h
  | .dcp a, W, d, sc, X, C, e, h => by
    unfold mE at h
    split at h
    · simp only [Bool.and_eq_true, decide_eq_true_eq] at h
      obtain ⟨⟨⟨rfl, h2⟩, h3⟩, h4⟩ := h
      exact snd_dcp C h2 (snd_all a C h3) h4
    · cases h
  | .slO a hi, W, d, sc, X, C, e, h => by
    unfold mE at h
    split at h
    · rw [Bool.and_eq_true] at h
      exact snd_slO C (snd_all a C h.1) (snd_all hi C h.2)
    · cases h
  | .dlitO k v, W, d, sc, X, C, e, h => by
    unfold mE at h
    split at h
    · simp only [Bool.and_eq_true] at h
      exact snd_dlitO C (snd_all k C h.1.1) (snd_all v C h.1.2) h.2
    · cases h
  | .pickL rs i, W, d, sc, X, C, e, h => by
    unfold mE at h
    split at h
    · simp only [Bool.and_eq_true, decide_eq_true_eq] at h
      obtain ⟨⟨⟨⟨h1, h2⟩, h3⟩, h4⟩, h5⟩ := h
      exact snd_pickL C h1 (sndf_all rs C h1 h2) h3 (snd_all i C h4) h5
    · cases h
  | .deq a b, W, d, sc, X, C, e, h => by
    unfold mE at h
    split at h
    · simp only [Bool.and_eq_true, decide_eq_true_eq] at h
      obtain ⟨⟨⟨rfl, h2⟩, h3⟩, h4⟩ := h
      exact snd_deq C (by simpa using h4) (snd_all a C h2) (snd_all b C h3)
    · cases h
  | .makeB c i, W, d, sc, X, C, e, h => by
    unfold mE at h
    split at h
    · simp only [Bool.and_eq_true] at h
      obtain ⟨⟨⟨⟨h1, h2⟩, h3⟩, h4⟩, h5⟩ := h
      split at h1
      · rename_i y n bo hf
        simp only [Bool.and_eq_true, decide_eq_true_eq] at h1
        obtain ⟨⟨rfl, rfl⟩, rfl⟩ := h1
        exact snd_makeB C hf h2 h3 h4 h5
      · cases h1
    · cases h
  | .lrev a, W, d, sc, X, C, e, h => by
    unfold mE at h
    split at h
    · simp only [Bool.and_eq_true, decide_eq_true_eq] at h
      obtain ⟨⟨⟨⟨⟨rfl, h2⟩, rfl⟩, h4⟩, h5⟩, h6⟩ := h
      exact snd_lrev C h2 h4 (snd_all a C h5) h6
    · cases h
theorem sndf_all : ∀ (es : Exs) {W : WX} {d : Bool} {sc : Scope} {X : Cx} (C : Ctx T fn W cls d sc X) {l : List Expr}, mEs T false es sc l = true → rowsE es = true → PA X l (tLF T fn W cls X.K es)
  | .nil, W, d, sc, X, C, l, h, _ => by
    cases l with
    | nil => exact paF_none
    | cons _ _ => cases h
  | .cons a r, W, d, sc, X, C, l, h, hr => by
    cases l with
    | nil => cases h
    | cons e es =>
      unfold mEs at h
      simp only [Bool.and_eq_true] at h
      obtain ⟨⟨⟨h1, h2⟩, h3⟩, h4⟩ := h
      obtain ⟨k1, k2⟩ := rows_kd (T := T) hr
      exact paF_some (snd_all a C h1) h2 k1 (sndf_all r C h4 k2)
theorem snds_all : ∀ (es : Exs) {W : WX} {d : Bool} {sc : Scope} {X : Cx} {s : Bool} (C : Ctx T fn W cls d sc X) {l : List Expr}, mEs T s es sc l = true → PA X l (tL T fn W cls X.K s es)
  | .nil, W, d, sc, X, s, C, l, h => by
    cases l with
    | nil => exact pa_none s
    | cons _ _ => cases h
  | .cons a r, W, d, sc, X, s, C, l, h => by
    cases l with
    | nil => cases h
    | cons e es =>
      simp only [mEs, Bool.and_eq_true] at h
      obtain ⟨⟨⟨h1, h2⟩, h3⟩, h4⟩ := h
      exact pa_some (snd_all a C h1) h2 (fun q => by subst q; simpa using h3) (snds_all r C h4)
theorem sndi_all : ∀ (it : Itr) {W : WX} {d : Bool} {sc : Scope} {X : Cx} (C : Ctx T fn W cls d sc X) {g e : Expr}, mI T it sc g e = true → PI X g e (tIt T fn W cls X.K it)
  | .seq a, W, d, sc, X, C, g, e, h => pi_seq C (snd_all a C (by simpa only [mI] using h))
  | .rng1 a, W, d, sc, X, C, g, e, h => by
    unfold mI at h
    split at h
    · simp only [Bool.and_eq_true, decide_eq_true_eq] at h
      obtain ⟨⟨⟨rfl, h2⟩, h3⟩, h4⟩ := h
      exact pi_rng1 C h2 (snd_all a C h3) h4
    · cases h
  | .rng2 a b, W, d, sc, X, C, g, e, h => by
    unfold mI at h
    split at h
    · simp only [Bool.and_eq_true, decide_eq_true_eq] at h
      obtain ⟨⟨⟨⟨⟨rfl, h2⟩, h3⟩, h4⟩, h5⟩, h6⟩ := h
      exact pi_rng2 C h2 (snd_all a C h3) h4 (snd_all b C h5) h6
    · cases h
  | .rng3 a b c, W, d, sc, X, C, g, e, h => by
    unfold mI at h
    split at h
    · simp only [Bool.and_eq_true, decide_eq_true_eq] at h
      obtain ⟨⟨⟨⟨⟨⟨⟨rfl, h2⟩, h3⟩, h4⟩, h5⟩, h6⟩, h7⟩, h8⟩ := h
      exact pi_rng3 C h2 (snd_all a C h3) h4 (snd_all b C h5) h6 (snd_all c C h7) h8
    · cases h
  | .enum a, W, d, sc, X, C, g, e, h => by
    unfold mI at h
    split at h
    · simp only [Bool.and_eq_true, decide_eq_true_eq] at h
      obtain ⟨⟨⟨⟨rfl, h2⟩, h3⟩, h4⟩, h5⟩ := h
      cases g with
      | Tuple es kk tp => exact pi_enm C h2 (snd_all a C h3) h4
      | _ => cases h5
    · cases h
  | .zip a b, W, d, sc, X, C, g, e, h => by
    unfold mI at h
    split at h
    · simp only [Bool.and_eq_true, decide_eq_true_eq] at h
      obtain ⟨⟨⟨⟨⟨⟨rfl, h2⟩, h3⟩, h4⟩, h5⟩, h6⟩, h7⟩ := h
      cases g with
      | Tuple es kk tp => exact pi_zp C h2 (snd_all a C h3) h4 (snd_all b C h5) h6
      | _ => cases h7
    · cases h
  | .rev a, W, d, sc, X, C, g, e, h => by
    unfold mI at h
    split at h
    · simp only [Bool.and_eq_true, decide_eq_true_eq] at h
      obtain ⟨⟨⟨rfl, h2⟩, h3⟩, h4⟩ := h
      exact pi_rv C h2 (snd_all a C h3) h4
    · cases h
  | .its i, W, d, sc, X, C, g, e, h => by
    unfold mI at h
    split at h
    · simp only [Bool.and_eq_true, decide_eq_true_eq] at h
      obtain ⟨⟨⟨⟨rfl, h2⟩, h3⟩, h4⟩, h5⟩ := h
      cases g with
      | Tuple es kk tp => exact pi_its C h3 h2 h5
      | _ => cases h4
    · cases h
end
end
end Den
namespace Den
open PySem PySem.Spec PyProof.Rows L2
mutual
inductive Cmd where
  | set (i : Nat) (e : Ex)
  | own (i : Nat) (e : Ex)
  | tgt (is : List Nat) (e : Ex)
  | mov (i j : Nat)
  | aug (i : Nat) (sub : Bool) (e : Ex)
  | setIx (i : Nat) (k e : Ex)
  | app (i : Nat) (e : Ex)
  | appM (i j : Nat)
  /-- x.append(f(x.pop(), ..)), x.append((.., x.pop(), ..)) -/
  | appC (i u : Nat) (bs : Exs)
  | appT (i : Nat) (a : Ex) (bs : Exs)
  | ext (i : Nat) (e : Ex)
  | pop (j i : Nat)
  | clear (i : Nat) | rvs (i : Nat)
  | expr (e : Ex)
  | ret (e : Ex) | retM (i : Nat) | retN
  | if_ (c : Ex) (a b : Cmds)
  | for_ (it : Itr) (tg : Tg) (body : Cmds)
  | while_ (c : Ex) (body : Cmds)
  | pass | brk | cont
  | raise (c : Nat)
  | kill (is : List Nat)
  /-- d[k] = e, d own; .. its key a tuple; a dict that was own, shared and locked as another name -/
  | dput (i : Nat) (k e : Ex)
  | dputT (i : Nat) (k : Exs) (e : Ex)
  | movD (i j : Nat)
  /-- try: body, except the class c as slot i: what is done by the exception's number -/
  | try_ (body : Cmds) (i : Option Nat) (c : Nat) (hs : Hds)
  /-- two except clauses; for tg in own i: if c: return e -/
  | try2 (body : Cmds) (c c2 : Nat) (hs : Hds)
  | chk (i : Nat) (tg : Tg) (c e : Ex)
inductive Hds where
  | nil
  | cons (k : Nat) (h : Cmds) (r : Hds)
inductive Cmds where
  | nil
  | cons (c : Cmd) (r : Cmds)
  | shr (i : Nat) (r : Cmds)
end
inductive O where
  | nx (ρ : Env) | brk (ρ : Env) | cont (ρ : Env)
  | ret (z : D)
  | exc (c : Nat) (ρ : Env)
  | bad
/-- an expression, then what follows -/
def thenO {α : Type} (r : R α) (ρ : Env) (f : α → O) : O := match r with
  | .ok z => f z
  | .exc c => .exc c ρ
  | .bad => .bad
/-- a slot is forgotten behind -/
def wipeO (i : Nat) : O → O
  | .nx ρ => .nx (ρ.set i none)
  | .brk ρ => .brk (ρ.set i none)
  | .cont ρ => .cont (ρ.set i none)
  | .exc c ρ => .exc c (ρ.set i none)
  | o => o
def wipeOo (i : Option Nat) (o : O) : O := match i with
  | some i => wipeO i o
  | none => o
/-- a suite raises nothing -/
def noxO : O → O
  | .exc _ _ => .bad
  | o => o
def hasOp (i : Option Nat) (ρ : Env) : Bool := match i with
  | some i => decide (i < ρ.length)
  | none => true
def killOp (i : Option Nat) (ρ : Env) : Env := match i with
  | some i => ρ.set i none
  | none => ρ
def seqO (o : O) (f : Env → O) : O := match o with
  | .nx ρ => f ρ
  | o => o
def forL (f : Env → D → O) : List D → Env → O
  | [], ρ => .nx ρ
  | x :: r, ρ => match f ρ x with
    | .nx ρ' => forL f r ρ'
    | .cont ρ' => forL f r ρ'
    | .brk ρ' => .nx ρ'
    | o => o
def whL (c : Env → R D) (f : Env → O) : Nat → Env → O
  | 0, _ => .bad
  | n + 1, ρ => thenO ((c ρ).bind asBool) ρ fun b => if b then (match f ρ with
    | .nx ρ' => whL c f n ρ'
    | .cont ρ' => whL c f n ρ'
    | .brk ρ' => .nx ρ'
    | o => o) else .nx ρ
def lstV (ρ : Env) (i : Nat) : R (List D) := match ρ[i]? with
  | some (some (.lst ds)) => .ok ds
  | _ => .bad
def dctV (ρ : Env) (i : Nat) : R (List Key × List D) := match ρ[i]? with
  | some (some (.dct false ks ds)) => .ok (ks, ds)
  | _ => .bad
def dcTV (ρ : Env) (i : Nat) : R (List (List Key) × List D) := match ρ[i]? with
  | some (some (.dcT ks ds)) => .ok (ks, ds)
  | _ => .bad
section
variable (fn : Nat → List D → R D) (fu : Nat)
mutual
def evC : Cmd → Env → O
  | .set i e, ρ => thenO (ev fn e ρ) ρ fun z => .nx (setV ρ i z)
  | .own i e, ρ => thenO (ev fn e ρ) ρ fun z => .nx (setV ρ i z)
  | .tgt is e, ρ => thenO (ev fn e ρ) ρ fun z => thenO (bindT ρ (.many is) z) ρ fun ρ' => .nx ρ'
  | .mov i j, ρ => thenO (getV ρ j) ρ fun z => .nx (setV (ρ.set j none) i z)
  | .aug i sub e, ρ => thenO (getV ρ i) ρ fun x => thenO (ev fn e ρ) ρ fun y => thenO ((asInt x).bind fun a => (asInt y).bind fun b => .ok (D.int (if sub then a - b else a + b))) ρ fun z => .nx (setV ρ i z)
  | .setIx i k e, ρ => thenO (ev fn e ρ) ρ fun z => thenO (lstV ρ i) ρ fun ds => thenO (ev fn k ρ) ρ fun y => thenO ((asInt y).bind fun j => someR (ixN ds.length j)) ρ fun j => .nx (setV ρ i (.lst (ds.set j z)))
  | .app i e, ρ => thenO (lstV ρ i) ρ fun ds => thenO (ev fn e ρ) ρ fun z => if ds.length < Line then .nx (setV ρ i (.lst (ds ++ [z]))) else .bad
  | .appM i j, ρ => thenO (lstV ρ i) ρ fun ds => thenO (getV ρ j) ρ fun z => if ds.length < Line then .nx (setV (ρ.set j none) i (.lst (ds ++ [z]))) else .bad
  | .appC i u bs, ρ => thenO (lstV ρ i) ρ fun ds => thenO (someR (ds[ds.length - 1]?)) ρ fun z => thenO (evs fn bs (setV ρ i (.lst ds.dropLast))) (setV ρ i (.lst ds.dropLast)) fun ys => thenO (fn u (z :: ys)) (setV ρ i (.lst ds.dropLast)) fun r => if ds.dropLast.length < Line then .nx (setV (setV ρ i (.lst ds.dropLast)) i (.lst (ds.dropLast ++ [r]))) else .bad
  | .appT i a bs, ρ => thenO (lstV ρ i) ρ fun ds => thenO (ev fn a ρ) ρ fun x => thenO (someR (ds[ds.length - 1]?)) ρ fun z => thenO (evs fn bs (setV ρ i (.lst ds.dropLast))) (setV ρ i (.lst ds.dropLast)) fun ys => if ds.dropLast.length < Line then .nx (setV (setV ρ i (.lst ds.dropLast)) i (.lst (ds.dropLast ++ [.tup (x :: z :: ys)]))) else .bad
  | .ext i e, ρ => thenO (lstV ρ i) ρ fun ds => thenO (ev fn e ρ) ρ fun z => thenO (itemsL z) ρ fun es => if ds.length + es.length ≤ Line then .nx (setV ρ i (.lst (ds ++ es))) else .bad
  | .pop j i, ρ => thenO (lstV ρ i) ρ fun ds => thenO (someR (ds[ds.length - 1]?)) ρ fun z => .nx (setV (setV ρ i (.lst ds.dropLast)) j z)
  | .clear i, ρ => thenO (lstV ρ i) ρ fun _ => .nx (setV ρ i (.lst []))
  | .rvs i, ρ => thenO (lstV ρ i) ρ fun ds => .nx (setV ρ i (.lst ds.reverse))
  | .expr e, ρ => thenO (ev fn e ρ) ρ fun _ => .nx ρ
  | .ret e, ρ => thenO (ev fn e ρ) ρ fun z => .ret z
  | .retM i, ρ => thenO (getV ρ i) ρ fun z => .ret z
  | .retN, _ => .ret .non
  | .if_ c a b, ρ => thenO ((ev fn c ρ).bind asBool) ρ fun k => if k then evCs a ρ else evCs b ρ
  | .for_ it tg body, ρ => thenO (evi fn it ρ) ρ fun xs => forL (fun ρ x => thenO (bindT ρ tg x) ρ fun ρ' => evCs body ρ') xs ρ
  | .while_ c body, ρ => whL (fun ρ => ev fn c ρ) (fun ρ => evCs body ρ) fu ρ
  | .pass, ρ => .nx ρ
  | .brk, ρ => .brk ρ
  | .cont, ρ => .cont ρ
  | .raise c, ρ => .exc c ρ
  | .kill is, ρ => .nx (wipeE ρ is)
  | .dput i k e, ρ => thenO (ev fn e ρ) ρ fun z => thenO (dctV ρ i) ρ fun p => thenO (ev fn k ρ) ρ fun y => thenO (someR (keyD y)) ρ fun k => if p.1.length < Line then .nx (setV ρ i (.dct false (puK p.1 k) (puV p.1 p.2 k z))) else .bad
  | .dputT i k e, ρ => thenO (ev fn e ρ) ρ fun z => thenO (dcTV ρ i) ρ fun p => thenO (evs fn k ρ) ρ fun ys => thenO (someR (keysD ys)) ρ fun k => if p.1.length < Line then .nx (setV ρ i (.dcT (puK p.1 k) (puV p.1 p.2 k z))) else .bad
  | .movD i j, ρ => thenO (dctV ρ j) ρ fun p => .nx (setV (ρ.set j none) i (.dct true p.1 p.2))
  | .try_ b i _ hs, ρ => match evCs b ρ with
    | .exc k ρ' => if hasOp i ρ' then wipeOo i (evHs hs k (killOp i ρ')) else .bad
    | o => o
  | .try2 b _ _ hs, ρ => match evCs b ρ with
    | .exc k ρ' => evHs hs k ρ'
    | o => o
  | .chk i tg c e, ρ => thenO (evi fn (.seq (.var i)) ρ) ρ fun xs => forL (fun ρ x => thenO (bindT ρ tg x) ρ fun ρ' => thenO ((ev fn c ρ').bind asBool) ρ' fun k => if k then thenO (ev fn e ρ') ρ' fun z => .ret z else .nx ρ') xs ρ
def evHs : Hds → Nat → Env → O
  | .nil, _, _ => .bad
  | .cons k h r, n, ρ => if n = k then noxO (evCs h ρ) else evHs r n ρ
def evCs : Cmds → Env → O
  | .nil, ρ => .nx ρ
  | .cons c r, ρ => seqO (evC c ρ) fun ρ' => evCs r ρ'
  | .shr i r, ρ => wipeO i (evCs r ρ)
end
/-- a def called: its body over its arguments -/
def initE (n : Nat) (zs : List D) : Env := zs.map some ++ List.replicate (n - zs.length) none
def runF (n : Nat) (fr : Bool) (body : Cmds) (zs : List D) : R D := match evCs fn fu body (initE n zs) with
  | .ret z => .ok z
  | .nx _ => if fr then .bad else .ok .non
  | .exc c _ => .exc c
  | _ => .bad
end
def notLC : Expr → Bool
  | .ListComp _ _ _ _ => false
  | .SetComp _ _ _ _ => false
  | .DictComp _ _ _ _ _ => false
  | _ => true
/-- is the name stored within the comprehension's frame? -/
def swB (sc : Scope) (y : Str) (py : Pos) : Expr → Bool
  | .ListComp _ _ s p => (match sc.names.lookup y with | some .local => true | _ => false) && (py.line == p.line) && !(s.names.any fun (n, k) => n == y && (k == .local || k == .cell))
  | _ => false
def okLC : Expr → Bool
  | .SetComp _ _ _ _ => false
  | .DictComp _ _ _ _ _ => false
  | _ => true
def isComp : Ex → Bool
  | .comp _ _ _ _ => true
  | .compIf _ _ _ _ _ => true
  | _ => false
def nmAt (T : Tbl) (sc : Scope) (i : Nat) (x : Str) : Bool := decide (T.N[i]? = some x) && locB true sc x
def rdAt (T : Tbl) (sc : Scope) (i : Nat) (x : Str) : Bool := decide (T.N[i]? = some x) && visB sc x && nmB x
def isK (T : Tbl) (k : Kd) (e : Ex) : Bool := decide (kd T e = k)
def notTup : Expr → Bool
  | .Tuple _ _ _ => false
  | _ => true
def killB : Cmd → Bool
  | .kill _ => true
  | _ => false
structure Cfg where
  T : Tbl
  sc : Scope
  ex : List Str
  sb : List (Nat × Str × Bool)
  ct : List (Nat × Str)
  fr : Bool
/-- a slot's object is shared from here on -/
def Tbl.shr (T : Tbl) (i : Nat) : Tbl := { T with own := T.own.filter (· != i) }
def Cfg.shr (C : Cfg) (i : Nat) : Cfg := { C with T := C.T.shr i }
/-- isinstance(e, y) of what is caught -/
def isEB (C : Cfg) (oi : Option Nat) (k : Nat) (b : Bool) : Expr → Bool
  | .Call (.Name x _) [.Name n _, .Name y _] [] _ => match oi with
    | some i => decide (x = "isinstance") && blt C.T C.sc x && decide (C.T.N[i]? = some n) && visB C.sc n && nmB n && glB C.sc y && nmB y && decide ((k, y, b) ∈ C.sb)
    | none => false
  | _ => false
def isEZ (C : Cfg) (oi : Option Nat) (k : Nat) (z : D) (e : Expr) : Bool := match z with
  | .bl b => isEB C oi k b e
  | _ => false
mutual
/-- an expression of an except suite -/
def mH (C : Cfg) (oi : Option Nat) (k : Nat) : Ex → Expr → Bool
  | .cst z, e => mE C.T (.cst z) C.sc e || isEZ C oi k z e
  | .var j, e => mE C.T (.var j) C.sc e
  | .and_ a b, e => match e with
    | .BoolOp .And (x :: y :: r) pos => mH C oi k a x && (match r with | [] => mH C oi k b y | z :: r' => mH C oi k b (.BoolOp .And (y :: z :: r') pos)) && ntI x && ntI y
    | _ => false
  | .not_ a, e => match e with
    | .UnaryOp op l _ => decide (op = .Not) && mH C oi k a l && ntI l
    | _ => false
  | .bin o a b, e => match e with
    | .BinOp l op r _ => decide (op = o.py) && mH C oi k a l && mH C oi k b r
    | _ => false
  | .bi b es, e => match e with
    | .Call (.Name x _) [l] [] _ => (match b with | .int_ => true | _ => false) && decide (x = "int") && blt C.T C.sc x && mHl C oi k false es [l]
    | _ => false
  | .lst es, e => match e with
    | .List l _ => mHl C oi k true es l && decide (l.length ≤ Line)
    | _ => false
  | .tup es, e => match e with
    | .Tuple l _ _ => mHl C oi k true es l && decide (l.length ≤ Line)
    | _ => false
  | .ix a b, e => match e with
    | .Subscript l r _ => mH C oi k a l && mH C oi k b r && plE r
    | _ => false
  | _, _ => false
def mHl (C : Cfg) (oi : Option Nat) (k : Nat) (s : Bool) : Exs → List Expr → Bool
  | .nil, l => match l with
    | [] => true
    | _ => false
  | .cons a r, l => match l with
    | e :: es => mH C oi k a e && plE e && (!s || nB C.T a) && mHl C oi k s r es
    | _ => false
end
/-- a statement of an except suite -/
def mHc (C : Cfg) (oi : Option Nat) (k : Nat) : Cmd → Stmt → Bool
  | .set j e, s => match s with
    | .Assign [.Name y _] v _ => nmAt C.T C.sc j y && !C.T.isOwn j && decide (some j ≠ oi) && nB C.T e && mH C oi k e v && notLC v
    | _ => false
  | .own j e, s => match s with
    | .Assign [.Name y _] v _ => nmAt C.T C.sc j y && C.T.isOwn j && decide (some j ≠ oi) && isK C.T .T e && mH C oi k e v && notLC v
    | _ => false
  | .app j e, s => match s with
    | .Expr (.Call (.Attribute (.Name x _) m ap) [v] [] cp) _ => decide (m = "append") && (ap.endLine == cp.line) && rdAt C.T C.sc j x && C.T.isOwn j && nB C.T e && mH C oi k e v && plE v
    | _ => false
  | .ret e, s => match s with
    | .Return (some v) _ => mH C oi k e v && (if C.fr then isK C.T .T e else nB C.T e)
    | _ => false
  | _, _ => false
def mHs (C : Cfg) (oi : Option Nat) (k : Nat) : Cmds → List Stmt → Bool
  | .nil, l => match l with
    | [] => true
    | _ => false
  | .cons c r, l => match l with
    | s :: ss => mHc C oi k c s && mHs C oi k r ss
    | _ => false
  | .shr _ _, _ => false
def mHd (C : Cfg) (oi : Option Nat) (x : Str) : Hds → List Stmt → Bool
  | .nil, _ => true
  | .cons k h r, l => decide ((k, x) ∈ C.ct) && mHs C oi k h l && mHd C oi x r l
/-- .. by two clauses -/
def mHd2 (C : Cfg) (x1 x2 : Str) : Hds → List Stmt → List Stmt → Bool
  | .nil, _, _ => true
  | .cons k h r, l1, l2 => ((decide ((k, x1) ∈ C.ct) && mHs C none k h l1) || (decide ((k, x1, false) ∈ C.sb) && decide ((k, x2) ∈ C.ct) && mHs C none k h l2)) && mHd2 C x1 x2 r l1 l2
/-- the name of what is caught -/
def mAs (C : Cfg) : Option Nat → Option Str → Bool
  | some i, some n => decide (C.T.N[i]? = some n) && !C.T.isOwn i && (match C.sc.names.lookup n with | some .local => true | _ => false)
  | none, none => true
  | _, _ => false
mutual
def mC : Cfg → Cmd → Stmt → Bool
  | C, .set i e, s => match s with
    | .Assign [.Name y py] v _ => nmAt C.T C.sc i y && !C.T.isOwn i && nB C.T e && mE C.T e C.sc v && okLC v && (!swB C.sc y py v || isComp e)
    | _ => false
  | C, .own i e, s => match s with
    | .Assign [.Name y py] v _ => nmAt C.T C.sc i y && C.T.isOwn i && isK C.T .T e && mE C.T e C.sc v && okLC v && (!swB C.sc y py v || isComp e)
    | _ => false
  | C, .tgt is e, s => match s with
    | .Assign [.Tuple es _ _] v _ => mNames C.T true C.sc is es && mE C.T e C.sc v && notLC v && notTup v
    | _ => false
  | C, .mov i j, s => match s with
    | .Assign [.Name y _] (.Name x _) _ => nmAt C.T C.sc i y && !C.T.isOwn i && rdAt C.T C.sc j x && C.T.isOwn j
    | _ => false
  | C, .aug i sub e, s => match s with
    | .AugAssign (.Name y _) op v _ => nmAt C.T C.sc i y && !C.T.isOwn i && decide (op = if sub then .Sub else .Add) && mE C.T e C.sc v
    | _ => false
  | C, .setIx i k e, s => match s with
    | .Assign [.Subscript (.Name x _) r _] v _ => rdAt C.T C.sc i x && C.T.isOwn i && mE C.T k C.sc r && plE r && nB C.T e && mE C.T e C.sc v && notLC v
    | _ => false
  | C, .app i e, s => match s with
    | .Expr (.Call (.Attribute (.Name x _) m ap) [v] [] cp) _ => decide (m = "append") && (ap.endLine == cp.line) && rdAt C.T C.sc i x && C.T.isOwn i && nB C.T e && mE C.T e C.sc v && plE v
    | _ => false
  | C, .appM i j, s => match s with
    | .Expr (.Call (.Attribute (.Name x _) m ap) [.Name y _] [] cp) _ => decide (m = "append") && (ap.endLine == cp.line) && rdAt C.T C.sc i x && C.T.isOwn i && rdAt C.T C.sc j y && C.T.isOwn j && decide (i ≠ j)
    | _ => false
  | C, .appC i u bs, s => match s with
    | .Expr (.Call (.Attribute (.Name x _) m ap) [.Call (.Name y _) (.Call (.Attribute (.Name x2 _) m2 ap2) [] [] cp2 :: ls) [] _] [] cp) _ => decide (m = "append") && (ap.endLine == cp.line) && rdAt C.T C.sc i x && C.T.isOwn i && decide (m2 = "pop") && (ap2.endLine == cp2.line) && rdAt C.T C.sc i x2 && decide (C.T.fns.lookup u = some (y, ls.length + 1, false)) && glB C.sc y && nmB y && mEs C.T true bs C.sc ls
    | _ => false
  | C, .appT i a bs, s => match s with
    | .Expr (.Call (.Attribute (.Name x _) m ap) [.Tuple (l :: .Call (.Attribute (.Name x2 _) m2 ap2) [] [] cp2 :: ls) _ _] [] cp) _ => decide (m = "append") && (ap.endLine == cp.line) && rdAt C.T C.sc i x && C.T.isOwn i && decide (m2 = "pop") && (ap2.endLine == cp2.line) && rdAt C.T C.sc i x2 && nB C.T a && mE C.T a C.sc l && plE l && mEs C.T true bs C.sc ls && decide (ls.length ≤ 16)
    | _ => false
  | C, .ext i e, s => match s with
    | .Expr (.Call (.Attribute (.Name x _) m ap) [v] [] cp) _ => decide (m = "extend") && (ap.endLine == cp.line) && rdAt C.T C.sc i x && C.T.isOwn i && mE C.T e C.sc v && plE v
    | _ => false
  | C, .pop j i, s => match s with
    | .Assign [.Name y _] (.Call (.Attribute (.Name x _) m ap) [] [] cp) _ => decide (m = "pop") && (ap.endLine == cp.line) && rdAt C.T C.sc i x && C.T.isOwn i && nmAt C.T C.sc j y && !C.T.isOwn j
    | _ => false
  | C, .clear i, s => match s with
    | .Expr (.Call (.Attribute (.Name x _) m ap) [] [] cp) _ => decide (m = "clear") && (ap.endLine == cp.line) && rdAt C.T C.sc i x && C.T.isOwn i
    | _ => false
  | C, .rvs i, s => match s with
    | .Expr (.Call (.Attribute (.Name x _) m ap) [] [] cp) _ => decide (m = "reverse") && (ap.endLine == cp.line) && rdAt C.T C.sc i x && C.T.isOwn i
    | _ => false
  | C, .expr e, s => match s with
    | .Expr v _ => mE C.T e C.sc v && notLC v
    | _ => false
  | C, .ret e, s => match s with
    | .Return (some v) _ => mE C.T e C.sc v && (if C.fr then isK C.T .T e else nB C.T e)
    | _ => false
  | C, .retM i, s => match s with
    | .Return (some (.Name x _)) _ => rdAt C.T C.sc i x && C.T.isOwn i
    | _ => false
  | C, .retN, s => match s with
    | .Return none _ => !C.fr
    | _ => false
  | C, .if_ c a b, s => match s with
    | .If t l r _ => mE C.T c C.sc t && ntI t && mCs C a l && mCs C b r
    | _ => false
  | C, .for_ it tg body, s => match s with
    | .For g i l [] _ => mI C.T it C.sc g i && plE i && nBI C.T it && mTg C.T true C.sc tg g && mCs C body l
    | _ => false
  | C, .while_ c body, s => match s with
    | .While t l [] _ => mE C.T c C.sc t && ntI t && mCs C body l
    | _ => false
  | C, .pass, s => match s with
    | .Pass _ => true
    | _ => false
  | C, .brk, s => match s with
    | .Break _ => true
    | _ => false
  | C, .cont, s => match s with
    | .Continue _ => true
    | _ => false
  | C, .raise c, s => match s with
    | .Raise (some (.Call (.Name x _) [.Constant (.str _) _ _] [] _)) none _ => decide (C.ex[c]? = some x) && glB C.sc x && nmB x && decide (x ≠ "")
    | _ => false
  | C, .kill _, _ => false
  | C, .dput i k e, s => match s with
    | .Assign [.Subscript (.Name x _) r _] v _ => rdAt C.T C.sc i x && C.T.isOwn i && mE C.T k C.sc r && plE r && nB C.T e && mE C.T e C.sc v && notLC v
    | _ => false
  | C, .dputT i k e, s => match s with
    | .Assign [.Subscript (.Name x _) (.Tuple l _ _) _] v _ => rdAt C.T C.sc i x && C.T.isOwn i && mEs C.T true k C.sc l && decide (l.length ≤ Line) && nB C.T e && mE C.T e C.sc v && notLC v
    | _ => false
  | C, .movD i j, s => match s with
    | .Assign [.Name y _] (.Name x _) _ => nmAt C.T C.sc i y && !C.T.isOwn i && rdAt C.T C.sc j x && C.T.isOwn j
    | _ => false
  | C, .try_ b i c hs, s => match s with
    | .Try body [.ExceptHandler (some (.Name x _)) n (s0 :: ss) _] [] [] _ => mCs C b body && decide (C.ex[c]? = some x) && glB C.sc x && nmB x && decide (x ≠ "") && mAs C i n && mHd C i x hs (s0 :: ss)
    | _ => false
  | C, .try2 b c1 c2 hs, s => match s with
    | .Try body [.ExceptHandler (some (.Name x _)) none (s0 :: ss) _, .ExceptHandler (some (.Name y _)) none (r0 :: rs) _] [] [] _ => mCs C b body && (decide (C.ex[c1]? = some x) && glB C.sc x && nmB x && decide (x ≠ "")) && (decide (C.ex[c2]? = some y) && glB C.sc y && nmB y && decide (y ≠ "")) && mHd2 C x y hs (s0 :: ss) (r0 :: rs)
    | _ => false
  | C, .chk i tg c e, s => match s with
    | .For g (.Name x _) [.If t [.Return (some v) _] [] _] [] _ => mE C.T (.var i) C.sc (.Name x ⟨0, 0, 0, 0⟩) && mTg C.T true C.sc tg g && mE C.T c C.sc t && ntI t && mE C.T e C.sc v && (if C.fr then isK C.T .T e else nB C.T e)
    | _ => false
def mCs : Cfg → Cmds → List Stmt → Bool
  | C, .nil, l => match l with
    | [] => true
    | _ => false
  | C, .cons c r, l => if killB c then mCs C r l else match l with
    | s :: ss => mC C c s && mCs C r ss
    | _ => false
  | C, .shr i r, l => mCs (C.shr i) r l
end
theorem isOwn_shr (T : Tbl) (i j : Nat) : (T.shr i).isOwn j = (T.isOwn j && j != i) := by
  show (T.own.filter (· != i)).contains j = (T.own.contains j && j != i)
  rw [Bool.eq_iff_iff]
  simp [List.mem_filter]
structure SI (K : PySem.W.Frag) (own : Nat → Bool) (G0 H0 G : Hp) (ρ : Env) (σ : L2.St) (H : Hp) : Prop where
  F : FI K own G ρ σ H
  t : Stp G0 H0 G H
  fr : ∀ i z a, own i = true → ρ[i]? = some (some z) → σ[i]? = some (some (.ref a)) → H0 a = none
section
variable {K : PySem.W.Frag} {own : Nat → Bool} {G0 H0 G H G1 H1 : Hp} {ρ : Env} {σ : L2.St}
theorem SI.step (I : SI K own G0 H0 G ρ σ H) (t : Stp G H G1 H1) : SI K own G0 H0 G1 ρ σ H1 := ⟨I.F.step t, I.t.trans t, I.fr⟩
theorem SI.setS (I : SI K own G0 H0 G ρ σ H) {i : Nat} {v : V} {z : D} (hi : own i = false) (r : Rp K G v z) : SI K own G0 H0 G (setV ρ i z) (σ.set i (some v)) H := by
  refine ⟨I.F.setS hi r, I.t, fun j y a hj e1 e2 => ?_⟩
  unfold setV at e1
  rcases set_get e1 with ⟨rfl, _⟩ | ⟨n, e1⟩
  · rw [hi] at hj; cases hj
  · rw [List.getElem?_set_ne n] at e2
    exact I.fr j y a hj e1 e2
/-- a new own object into an own slot -/
theorem SI.setO (I : SI K own G0 H0 G ρ σ H) {i : Nat} {a : Addr} {o : HO} {z : D} {G1 H1 : Hp} (hi : own i = true) (t : Stp G H G1 H1) (n : H a = none) (ho : H1 a = some o) (hg : G1 a = none) (r : RpO K G1 o z) :
    SI K own G0 H0 G1 (setV ρ i z) (σ.set i (some (.ref a))) H1 := by
  have I1 := I.step t
  have na : ∀ j y b, own j = true → ρ[j]? = some (some y) → σ[j]? = some (some (.ref b)) → b ≠ a := fun j y b hj e1 e2 q => by
    obtain ⟨b', o', e3, ho', _⟩ := I.F.ow j y hj e1
    rw [e2] at e3
    cases e3
    rw [q, n] at ho'
    cases ho'
  have lt : ∀ {x : D}, (setV ρ i z)[i]? = some (some x) → i < σ.length := fun {x} e => by
    have := (List.getElem?_eq_some_iff.mp e).1
    unfold setV at this
    rw [List.length_set] at this
    rw [← I.F.len]; exact this
  refine ⟨⟨I1.F.ok, by unfold setV; rw [List.length_set, List.length_set]; exact I.F.len, fun j x hj e => ?_, fun j x hj e => ?_, fun j k b x y hj hk e1 e2 e3 e4 => ?_⟩, I1.t, fun j y b hj e1 e2 => ?_⟩
  · unfold setV at e
    rcases set_get e with ⟨rfl, _⟩ | ⟨nn, e⟩
    · rw [hi] at hj; cases hj
    · rw [List.getElem?_set_ne nn]
      exact I1.F.sh j x hj e
  · have e' := e
    unfold setV at e
    rcases set_get e with ⟨rfl, h2⟩ | ⟨nn, e⟩
    · cases h2
      exact ⟨a, o, List.getElem?_set_self (lt e'), ho, hg, r⟩
    · rw [List.getElem?_set_ne nn]
      exact I1.F.ow j x hj e
  · unfold setV at e1 e2
    rcases set_get e1 with ⟨rfl, _⟩ | ⟨n1, e1⟩
    · rcases set_get e2 with ⟨rfl, _⟩ | ⟨n2, e2⟩
      · rfl
      · rw [List.getElem?_set_ne n2] at e4
        have hb := na k y b hk e2 e4
        have : (σ.set i (some (V.ref a)))[i]? = some (some (V.ref a)) := set_at e3
        rw [this] at e3
        cases e3
        exact absurd rfl hb
    · rcases set_get e2 with ⟨rfl, _⟩ | ⟨n2, e2⟩
      · rw [List.getElem?_set_ne n1] at e3
        have hb := na j x b hj e1 e3
        have : (σ.set i (some (V.ref a)))[i]? = some (some (V.ref a)) := set_at e4
        rw [this] at e4
        cases e4
        exact absurd rfl hb
      · rw [List.getElem?_set_ne n1] at e3
        rw [List.getElem?_set_ne n2] at e4
        exact I.F.ap j k b x y hj hk e1 e2 e3 e4
  · unfold setV at e1
    rcases set_get e1 with ⟨rfl, _⟩ | ⟨nn, e1⟩
    · have : (σ.set i (some (V.ref a)))[i]? = some (some (V.ref a)) := set_at e2
      rw [this] at e2
      cases e2
      exact I.t.h.free n
    · rw [List.getElem?_set_ne nn] at e2
      exact I.fr j y b hj e1 e2
/-- an own object changed where it stands -/
theorem SI.upd (I : SI K own G0 H0 G ρ σ H) {i : Nat} {a : Addr} {o' : HO} {z z' : D} (hi : own i = true) (e : ρ[i]? = some (some z)) (e2 : σ[i]? = some (some (.ref a))) (r : RpO K G o' z') :
    SI K own G0 H0 G (setV ρ i z') σ (upd H a o') := by
  obtain ⟨a', o, e3, ho, hg, _⟩ := I.F.ow i z hi e
  rw [e2] at e3
  cases e3
  have h0 : H0 a = none := I.fr i z a hi e e2
  have ne : ∀ j y b, own j = true → j ≠ i → ρ[j]? = some (some y) → σ[j]? = some (some (.ref b)) → b ≠ a := fun j y b hj n e4 e5 q => by
    subst q
    exact n (I.F.ap j i b y z hj hi e4 e e5 e2)
  have ok : Ok2 G (L2.upd H a o') := by
    refine ⟨fun b u q => ?_, fun b u q n => ?_⟩
    · rw [upd_ne (ne_of_none q hg)]; exact I.F.ok.s _ _ q
    · by_cases hb : b = a
      · subst hb; rw [upd_same] at q; cases q; exact r.owb
      · rw [upd_ne hb] at q; exact I.F.ok.z _ _ q n
  refine ⟨⟨ok, by unfold setV; rw [List.length_set]; exact I.F.len, fun j x hj q => ?_, fun j x hj q => ?_, fun j k b x y hj hk q1 q2 q3 q4 => ?_⟩, ⟨fun b u q => ?_, I.t.g, ok, I.t.k⟩, fun j y b hj q1 q2 => ?_⟩
  · unfold setV at q
    rcases set_get q with ⟨rfl, _⟩ | ⟨nn, q⟩
    · rw [hi] at hj; cases hj
    · exact I.F.sh j x hj q
  · unfold setV at q
    rcases set_get q with ⟨rfl, h2⟩ | ⟨nn, q⟩
    · cases h2
      exact ⟨a, o', e2, upd_same, hg, r⟩
    · obtain ⟨b, u, q3, hb, hgb, rb⟩ := I.F.ow j x hj q
      refine ⟨b, u, q3, ?_, hgb, rb⟩
      rw [upd_ne (ne j x b hj (fun t => nn t.symm) q q3)]
      exact hb
  · have some_of : ∀ {l : Nat} {u : D}, (setV ρ i z')[l]? = some (some u) → ∃ u', ρ[l]? = some (some u') := fun {l u} q => by
      unfold setV at q
      rcases set_get q with ⟨rfl, _⟩ | ⟨_, q⟩
      · exact ⟨z, e⟩
      · exact ⟨u, q⟩
    obtain ⟨x', q1⟩ := some_of q1
    obtain ⟨y', q2⟩ := some_of q2
    exact I.F.ap j k b x' y' hj hk q1 q2 q3 q4
  · rw [upd_ne (ne_of_none q h0)]; exact I.t.h _ _ q
  · unfold setV at q1
    rcases set_get q1 with ⟨rfl, _⟩ | ⟨_, q1⟩
    · rw [e2] at q2; cases q2; exact h0
    · exact I.fr j y b hj q1 q2
/-- slots forgotten -/
theorem FI.forget (F : FI K own G ρ σ H) (i : Nat) : FI K own G (ρ.set i none) σ H where
  ok := F.ok
  len := by rw [List.length_set]; exact F.len
  sh := fun j e hj h => by
    rcases set_get h with ⟨_, h2⟩ | ⟨h1, h2⟩
    · cases h2
    · exact F.sh j e hj h2
  ow := fun j e hj h => by
    rcases set_get h with ⟨rfl, h2⟩ | ⟨h1, h2⟩
    · cases h2
    · exact F.ow j e hj h2
  ap := fun j k a x y hj hk h1 h2 h3 h4 => by
    rcases set_get h1 with ⟨_, h1⟩ | ⟨n1, h1⟩
    · cases h1
    · rcases set_get h2 with ⟨_, h2⟩ | ⟨n2, h2⟩
      · cases h2
      · exact F.ap j k a x y hj hk h1 h2 h3 h4
theorem SI.forget (I : SI K own G0 H0 G ρ σ H) (i : Nat) : SI K own G0 H0 G (ρ.set i none) σ H :=
  ⟨I.F.forget i, I.t, fun j z a hj h1 h2 => by
    rcases set_get h1 with ⟨_, h1⟩ | ⟨_, h1⟩
    · cases h1
    · exact I.fr j z a hj h1 h2⟩
theorem SI.wipe (I : SI K own G0 H0 G ρ σ H) : ∀ vs : List Nat, SI K own G0 H0 G (wipeE ρ vs) σ H
  | [] => I
  | v :: vs => (SI.wipe I vs).forget v
/-- an own object is shared from here on; its slot is forgotten -/
theorem SI.free (I : SI K own G0 H0 G ρ σ H) {j : Nat} {z : D} (hj : own j = true) (e : ρ[j]? = some (some z)) :
    ∃ a o G1, σ[j]? = some (some (.ref a)) ∧ H a = some o ∧ G1 = L2.upd G a o ∧ Stp G0 H0 G1 H ∧ Same G G1 ∧ Rp K G1 (.ref a) z ∧ SI K own G0 H0 G1 (ρ.set j none) σ H := by
  obtain ⟨a, o, e2, ho, hg, r⟩ := I.F.ow j z hj e
  have h0 : H0 a = none := I.fr j z a hj e e2
  have t := I.t.freeze h0 hg ho
  have sg : Same G (L2.upd G a o) := same_upd hg
  refine ⟨a, o, _, e2, ho, rfl, t, sg, r.freeze hg, ⟨⟨t.o, by rw [List.length_set]; exact I.F.len, fun i x hi q => ?_, fun i x hi q => ?_, fun i k b x y hi hk q1 q2 q3 q4 => ?_⟩, t, fun i y b hi q1 q2 => ?_⟩⟩
  · rcases set_get q with ⟨_, q⟩ | ⟨_, q⟩
    · cases q
    · obtain ⟨v, q1, q2⟩ := I.F.sh i x hi q
      exact ⟨v, q1, q2.mono sg⟩
  · rcases set_get q with ⟨_, q⟩ | ⟨nn, q⟩
    · cases q
    · obtain ⟨b, u, q3, hb, hgb, rb⟩ := I.F.ow i x hi q
      refine ⟨b, u, q3, hb, ?_, rb.mono sg⟩
      rw [upd_ne ?_]
      · exact hgb
      · rintro rfl
        exact nn (I.F.ap j i b z x hj hi e q e2 q3)
  · rcases set_get q1 with ⟨_, q⟩ | ⟨_, q1⟩
    · cases q
    · rcases set_get q2 with ⟨_, q⟩ | ⟨_, q2⟩
      · cases q
      · exact I.F.ap i k b x y hi hk q1 q2 q3 q4
  · rcases set_get q1 with ⟨_, q⟩ | ⟨_, q1⟩
    · cases q
    · exact I.fr i y b hi q1 q2
/-- an own object is shared and locked; its slot is forgotten -/
theorem SI.keep (I : SI K own G0 H0 G ρ σ H) {j : Nat} {a : Addr} {o' : HO} {z : D} (hj : own j = true) (e : ρ[j]? = some (some z)) (e2 : σ[j]? = some (some (.ref a))) :
    Same G (L2.upd G a o') ∧ SI K own G0 H0 (L2.upd G a o') (ρ.set j none) σ (L2.upd H a o') := by
  obtain ⟨a', o, e3, ho, hg, r⟩ := I.F.ow j z hj e
  rw [e2] at e3
  cases e3
  have h0 : H0 a = none := I.fr j z a hj e e2
  have t : Stp G0 H0 (L2.upd G a o') (L2.upd H a o') := I.t.keep h0 hg
  have sg : Same G (L2.upd G a o') := same_upd hg
  refine ⟨sg, ⟨⟨t.o, by rw [List.length_set]; exact I.F.len, fun i x hi q => ?_, fun i x hi q => ?_, fun i k b x y hi hk q1 q2 q3 q4 => ?_⟩, t, fun i y b hi q1 q2 => ?_⟩⟩
  · rcases set_get q with ⟨_, q⟩ | ⟨_, q⟩
    · cases q
    · obtain ⟨v, q1, q2⟩ := I.F.sh i x hi q
      exact ⟨v, q1, q2.mono sg⟩
  · rcases set_get q with ⟨_, q⟩ | ⟨nn, q⟩
    · cases q
    · obtain ⟨b, u, q3, hb, hgb, rb⟩ := I.F.ow i x hi q
      have ne : b ≠ a := by
        rintro rfl
        exact nn (I.F.ap j i b z x hj hi e q e2 q3)
      exact ⟨b, u, q3, by rw [upd_ne ne]; exact hb, by rw [upd_ne ne]; exact hgb, rb.mono sg⟩
  · rcases set_get q1 with ⟨_, q⟩ | ⟨_, q1⟩
    · cases q
    · rcases set_get q2 with ⟨_, q⟩ | ⟨_, q2⟩
      · cases q
      · exact I.F.ap i k b x y hi hk q1 q2 q3 q4
  · rcases set_get q1 with ⟨_, q⟩ | ⟨_, q1⟩
    · cases q
    · exact I.fr i y b hi q1 q2
/-- .. and stays in its slot, that is no own one from here on -/
theorem SI.share (I : SI K own G0 H0 G ρ σ H) (i : Nat) {own' : Nat → Bool} (ho : ∀ j, own' j = (own j && j != i)) : ∃ G1, Same G G1 ∧ SI K own' G0 H0 G1 ρ σ H := by
  have ho' : ∀ j, own' j = true → own j = true ∧ j ≠ i := fun j h => by
    rw [ho, Bool.and_eq_true] at h
    exact ⟨h.1, by simpa using h.2⟩
  have get : ∀ {j : Nat} {d : Option D}, j ≠ i → (ρ.set i none)[j]? = ρ[j]? := fun n => List.getElem?_set_ne (fun e => n e.symm)
  have from_ : ∀ G1, SI K own G0 H0 G1 (ρ.set i none) σ H → (∀ d, ρ[i]? = some (some d) → own i = true → ∃ v, σ[i]? = some (some v) ∧ Rp K G1 v d) → (∀ j d, own j = false → ρ[j]? = some (some d) → ∃ v, σ[j]? = some (some v) ∧ Rp K G1 v d) → SI K own' G0 H0 G1 ρ σ H := by
    intro G1 I1 hi hs
    refine ⟨⟨I1.F.ok, by have := I1.F.len; rwa [List.length_set] at this, fun j d hj e => ?_, fun j d hj e => ?_, fun j k a x y hj hk e1 e2 e3 e4 => ?_⟩, I1.t, fun j z a hj e1 e2 => ?_⟩
    · cases h : own j with
      | false => exact hs j d h e
      | true =>
        have ej : j = i := by
          have := ho j
          rw [hj, h] at this
          simpa using this.symm
        subst ej
        exact hi d e h
    · obtain ⟨h1, h2⟩ := ho' j hj
      exact I1.F.ow j d h1 (by rw [get (d := none) h2]; exact e)
    · obtain ⟨h1, h2⟩ := ho' j hj
      obtain ⟨h3, h4⟩ := ho' k hk
      exact I1.F.ap j k a x y h1 h3 (by rw [get (d := none) h2]; exact e1) (by rw [get (d := none) h4]; exact e2) e3 e4
    · obtain ⟨h1, h2⟩ := ho' j hj
      exact I1.fr j z a h1 (by rw [get (d := none) h2]; exact e1) e2
  cases hw : own i with
  | false =>
    exact ⟨G, Same.refl _, from_ G (I.forget i) (fun d _ h => by rw [hw] at h; cases h) fun j d hj e => I.F.sh j d hj e⟩
  | true =>
    cases e : ρ[i]? with
    | none => exact ⟨G, Same.refl _, from_ G (I.forget i) (fun d h _ => by rw [e] at h; cases h) fun j d hj e => I.F.sh j d hj e⟩
    | some o =>
      cases o with
      | none => exact ⟨G, Same.refl _, from_ G (I.forget i) (fun d h _ => by rw [e] at h; cases h) fun j d hj e => I.F.sh j d hj e⟩
      | some z =>
        obtain ⟨a, o, G1, e2, ha, eg, t, sg, r, I1⟩ := I.free hw e
        refine ⟨G1, sg, from_ G1 I1 (fun d h _ => ?_) fun j d hj e => ?_⟩
        · rw [e] at h; cases h
          exact ⟨_, e2, r⟩
        · obtain ⟨v, h1, h2⟩ := I.F.sh j d hj e
          exact ⟨v, h1, h2.mono sg⟩
theorem SI.unshare (I : SI K own G0 H0 G ρ σ H) (i : Nat) {own' : Nat → Bool} (ho : ∀ j, own j = (own' j && j != i)) : SI K own' G0 H0 G (ρ.set i none) σ H := by
  have I1 := I.forget i
  have h' : ∀ j d, (ρ.set i none)[j]? = some (some d) → own' j = own j := fun j d e => by
    rcases set_get e with ⟨_, e⟩ | ⟨n, _⟩
    · cases e
    · rw [ho]
      have : (j != i) = true := by simpa using fun q => n q.symm
      rw [this, Bool.and_true]
  refine ⟨⟨I1.F.ok, I1.F.len, fun j d hj e => I1.F.sh j d (by rw [← h' j d e]; exact hj) e, fun j d hj e => I1.F.ow j d (by rw [← h' j d e]; exact hj) e, fun j k a x y hj hk e1 e2 => I1.F.ap j k a x y (by rw [← h' j x e1]; exact hj) (by rw [← h' k y e2]; exact hk) e1 e2⟩, I1.t, fun j z a hj e1 => I1.fr j z a (by rw [← h' j z e1]; exact hj) e1⟩
end
end Den
namespace Den
open PySem PySem.Spec PyProof.Rows L2
section
variable (W : WX) (cls : Nat → Value) (K : PySem.W.Frag) (own : Nat → Bool) (fr : Bool) (G0 H0 : Hp)
/-- what is wanted behind a statement -/
def WantC (o : O) (G : Hp) (D : Ends) : Prop := match o with
  | .nx ρ => ∀ σ' H' G', Same G G' → SI K own G0 H0 G' ρ σ' H' → D.nx σ' H'
  | .brk ρ => ∀ σ' H' G', Same G G' → SI K own G0 H0 G' ρ σ' H' → D.bk σ' H'
  | .cont ρ => ∀ σ' H' G', Same G G' → SI K own G0 H0 G' ρ σ' H' → D.ct σ' H'
  | .ret z => ∀ v H' G', Same G G' → Stp G0 H0 G' H' → PK (if fr then .T else .S) K G0 H0 G' H' v z → D.rt v H'
  | .exc c ρ => ∀ σ' H' G', Same G G' → SI K own G0 H0 G' ρ σ' H' → W (cls c) none σ' H'
  | .bad => False
variable {W cls K own fr G0 H0}
theorem WantC.shift {o : O} {G G1 : Hp} {D : Ends} (s : Same G G1) (h : WantC W cls K own fr G0 H0 o G D) : WantC W cls K own fr G0 H0 o G1 D := by
  cases o with
  | nx ρ => exact fun σ' H' G' t => h σ' H' G' (s.trans t)
  | brk ρ => exact fun σ' H' G' t => h σ' H' G' (s.trans t)
  | cont ρ => exact fun σ' H' G' t => h σ' H' G' (s.trans t)
  | ret z => exact fun v H' G' t => h v H' G' (s.trans t)
  | exc c ρ => exact fun σ' H' G' t => h σ' H' G' (s.trans t)
  | bad => exact h
end
/-- the module's exceptions: a class without more -/
structure ExD (K : PySem.W.Frag) (mg : Str → Option Value) (x : Str) (v : Value) : Prop where
  ex : ∃ C, v = .ref C ∧ mg x = some (.ref C) ∧ PySem.W.excIn K C [.type "ValueError", .type "Exception", .type "BaseException", .type "object"] "ValueError.__new__" = true ∧ PySem.W.keepIn K (.ref C) = true ∧
    PySem.W.subIn K (.ref C) (.type "BaseException") = some true ∧ PySem.W.typeIn K (.ref C) = some (.type "type")
/-- a name of a class: one of ours, or a built-in one -/
def ClsV (mg : Str → Option Value) (y : Str) (cv : Value) (cV : V) : Prop := (∃ C, mg y = some (.ref C) ∧ cv = .ref C ∧ cV = .ref C) ∨ ∃ t, mg y = none ∧ bootBuiltins y = some (.type t) ∧ y ≠ "__name__" ∧ cv = .type t ∧ cV = .ty t
/-- what isinstance says of an exception -/
structure SubD (K : PySem.W.Frag) (mg : Str → Option Value) (v : Value) (y : Str) (b : Bool) : Prop where
  ex : ∃ D cv cV, v = .ref D ∧ ExcC K D ∧ ClsV mg y cv cV ∧ PySem.W.kitOne K (.ref D) cv = some b
/-- what an except clause takes -/
structure CatD (K : PySem.W.Frag) (mg : Str → Option Value) (v : Value) (y : Str) : Prop where
  ex : ∃ D C, v = .ref D ∧ mg y = some (.ref C) ∧ PySem.W.exmOne K (.ref D) (.ref C) = some true
/-- a def's body -/
structure CtxD (C : Cfg) (fn : Nat → List D → R D) (W : WX) (cls : Nat → Value) (X : Cx) : Prop where
  c : Ctx C.T fn W cls true C.sc X
  kind : X.env.scope.kind = .function
  po : PassesOwn (model X.prog X.w) X.A X.env X.xe
  ex : ∀ (n : Nat) (x : Str), C.ex[n]? = some x → x ≠ "" → ExD X.K X.mg x (cls n)
  st : X.stack = X.env :: X.outer
  fm : X.env.frame = some X.env.locals
  sb : ∀ p ∈ C.sb, SubD X.K X.mg (cls p.1) p.2.1 p.2.2
  ct : ∀ p ∈ C.ct, CatD X.K X.mg (cls p.1) p.2
section
variable {C : Cfg} {fn : Nat → List D → R D} {fu : Nat} {W : WX} {cls : Nat → Value} {X : Cx} {G0 H0 : Hp}
def tCm (C : Cfg) (fn : Nat → List D → R D) (fu : Nat) (W : WX) (cls : Nat → Value) (K : PySem.W.Frag) (G0 H0 : Hp) (f : Env → O) : TS := fun D σ H => ∃ G ρ, SI K C.T.isOwn G0 H0 G ρ σ H ∧ WantC W cls K C.T.isOwn C.fr G0 H0 (f ρ) G D
theorem ps_imp {s : Stmt} {t u : TS} (h : PS X s u) (i : ∀ D σ H, t D σ H → u D σ H) : PS X s t := ps_ex fun σ H D q => ⟨u, h, i D σ H q⟩
theorem pss_imp {s : List Stmt} {t u : TS} (h : PSs X s u) (i : ∀ D σ H, t D σ H → u D σ H) : PSs X s t := pss_ex fun σ H D q => ⟨u, h, i D σ H q⟩
/-- an expression, then the rest -/
theorem thenE {e : Ex} {G H : Hp} {ρ : Env} {σ : L2.St} {f : D → O} {D : Ends} {P : VK} (I : SI X.K C.T.isOwn G0 H0 G ρ σ H) (h : WantC W cls X.K C.T.isOwn C.fr G0 H0 (thenO (ev fn e ρ) ρ f) G D)
    (q : ∀ z v H1 G1, Stp G H G1 H1 → SI X.K C.T.isOwn G0 H0 G1 ρ σ H1 → PK (kd C.T e) X.K G H G1 H1 v z → WantC W cls X.K C.T.isOwn C.fr G0 H0 (f z) G1 D → P v H1) : tE C.T fn W cls X.K e σ H P := by
  refine ⟨G, ρ, I.F, ?_⟩
  cases e1 : ev fn e ρ with
  | ok z =>
    rw [e1] at h
    exact fun v H' G' t p => q z v H' G' t (I.step t) p (WantC.shift t.g h)
  | exc c =>
    rw [e1] at h
    exact fun H' G' t => h σ H' G' t.g (I.step t)
  | bad => rw [e1] at h; exact h
theorem thenT {e : Ex} {G H : Hp} {ρ : Env} {σ : L2.St} {f : Bool → O} {D : Ends} {P : Bool → Hp → Prop} (I : SI X.K C.T.isOwn G0 H0 G ρ σ H) (h : WantC W cls X.K C.T.isOwn C.fr G0 H0 (thenO ((ev fn e ρ).bind asBool) ρ f) G D)
    (q : ∀ b H1 G1, Stp G H G1 H1 → SI X.K C.T.isOwn G0 H0 G1 ρ σ H1 → WantC W cls X.K C.T.isOwn C.fr G0 H0 (f b) G1 D → P b H1) : tT C.T fn W cls X.K e σ H P := by
  refine ⟨G, ρ, I.F, ?_⟩
  cases e1 : ev fn e ρ with
  | ok z =>
    rw [e1] at h
    cases z with
    | bl b => exact fun H' G' t => q b H' G' t (I.step t) (WantC.shift t.g h)
    | _ => exact h
  | exc c =>
    rw [e1] at h
    exact fun H' G' t => h σ H' G' t.g (I.step t)
  | bad => rw [e1] at h; exact h
theorem thenI {it : Itr} {G H : Hp} {ρ : Env} {σ : L2.St} {f : List D → O} {D : Ends} {P : It → Hp → Prop} (I : SI X.K C.T.isOwn G0 H0 G ρ σ H) (h : WantC W cls X.K C.T.isOwn C.fr G0 H0 (thenO (evi fn it ρ) ρ f) G D)
    (q : ∀ zs J H1 G1, Stp G H G1 H1 → SI X.K C.T.isOwn G0 H0 G1 ρ σ H1 → Yields X.K (fun H2 => nBI C.T it = true ∨ Same H1 H2) J zs G1 → WantC W cls X.K C.T.isOwn C.fr G0 H0 (f zs) G1 D → P J H1) : tIt C.T fn W cls X.K it σ H P := by
  refine ⟨G, ρ, I.F, ?_⟩
  cases e1 : evi fn it ρ with
  | ok z =>
    rw [e1] at h
    exact fun J H' G' t y => q z J H' G' t (I.step t) y (WantC.shift t.g h)
  | exc c =>
    rw [e1] at h
    exact fun H' G' t => h σ H' G' t.g (I.step t)
  | bad => rw [e1] at h; exact h
/-- data alone, then the rest -/
theorem thenD {α : Type} {r : R α} {G : Hp} {ρ : Env} {f : α → O} {D : Ends} (hn : ∀ c, r ≠ .exc c) (h : WantC W cls X.K C.T.isOwn C.fr G0 H0 (thenO r ρ f) G D) : ∃ z, r = .ok z ∧ WantC W cls X.K C.T.isOwn C.fr G0 H0 (f z) G D := by
  cases r with
  | ok z => exact ⟨z, rfl, h⟩
  | exc c => exact absurd rfl (hn c)
  | bad => exact h.elim
theorem getV_ne (ρ : Env) (i : Nat) : ∀ c, getV ρ i ≠ .exc c := by
  unfold getV
  split <;> first | exact ne_ok | exact ne_bad
theorem lstV_ne (ρ : Env) (i : Nat) : ∀ c, lstV ρ i ≠ .exc c := by
  unfold lstV
  split <;> first | exact ne_ok | exact ne_bad
theorem dctV_ne (ρ : Env) (i : Nat) : ∀ c, dctV ρ i ≠ .exc c := by
  unfold dctV
  split <;> first | exact ne_ok | exact ne_bad
theorem dcTV_ne (ρ : Env) (i : Nat) : ∀ c, dcTV ρ i ≠ .exc c := by
  unfold dcTV
  split <;> first | exact ne_ok | exact ne_bad
theorem dctV_ok {ρ : Env} {i : Nat} {p : List Key × List D} (h : dctV ρ i = .ok p) : ρ[i]? = some (some (.dct false p.1 p.2)) := by
  unfold dctV at h
  split at h
  · rename_i e; cases h; exact e
  · cases h
theorem dcTV_ok {ρ : Env} {i : Nat} {p : List (List Key) × List D} (h : dcTV ρ i = .ok p) : ρ[i]? = some (some (.dcT p.1 p.2)) := by
  unfold dcTV at h
  split at h
  · rename_i e; cases h; exact e
  · cases h
theorem getV_ok {ρ : Env} {i : Nat} {z : D} (h : getV ρ i = .ok z) : ρ[i]? = some (some z) := by
  unfold getV at h
  split at h
  · rename_i e; cases h; exact e
  · cases h
theorem lstV_ok {ρ : Env} {i : Nat} {ds : List D} (h : lstV ρ i = .ok ds) : ρ[i]? = some (some (.lst ds)) := by
  unfold lstV at h
  split at h
  · rename_i e; cases h; exact e
  · cases h
theorem asInt_ne (z : D) : ∀ c, asInt z ≠ .exc c := by
  cases z <;> first | exact ne_ok | exact ne_bad
theorem asInt_ok {z : D} {i : Int} (h : asInt z = .ok i) : z = .int i := by
  cases z <;> cases h; rfl
theorem wantC_nx {ρ : Env} {G H : Hp} {σ : L2.St} {D : Ends} (I : SI X.K C.T.isOwn G0 H0 G ρ σ H) (h : WantC W cls X.K C.T.isOwn C.fr G0 H0 (.nx ρ) G D) : D.nx σ H := h σ H G (Same.refl _) I
theorem nmAt_ok (c : Ctx C.T fn W cls true C.sc X) {i : Nat} {x : Str} (h : nmAt C.T C.sc i x = true) : X.N.Nodup ∧ X.N[i]? = some x ∧ L2.Loc X.env.scope x ∧ (X.fn x = true ∨ X.env.scope.names.lookup x = some .local) := by
  unfold nmAt at h
  rw [Bool.and_eq_true, decide_eq_true_eq] at h
  obtain ⟨l1, _⟩ := locB_ok h.2
  exact ⟨by rw [c.hN]; exact c.nd, by rw [c.hN]; exact h.1, by rw [c.hs]; exact l1, .inl (c.fnc rfl x)⟩
theorem rdAt_ok (c : Ctx C.T fn W cls true C.sc X) {i : Nat} {x : Str} {p : Pos} (h : rdAt C.T C.sc i x = true) : PE X (.Name x p) (tVar i) := by
  unfold rdAt at h
  rw [Bool.and_eq_true, Bool.and_eq_true, decide_eq_true_eq] at h
  obtain ⟨n1, n2, n3⟩ := nmB_ok h.2
  exact pe_var (by rw [c.hN]; exact h.1.1) (by rw [c.hs]; exact visB_ok h.1.2) n1 n2
theorem swB_ok (hk : X.env.scope.kind = .function) {sc : Scope} (hs : X.env.scope = sc) {y : Str} {py : Pos} {l : Nat} {v : Expr} (hv : okLC v = true) : swapsWith v (some (.Name y py)) l X.env = pure (swB sc y py v) := by
  have hb : X.env.blockKind = .function := by unfold PySem.Env.blockKind; rw [hk]; rfl
  cases v with
  | ListComp a b s p =>
    unfold swapsWith swB
    have e1 : (X.env.kindOf y == some NameKind.local) = (match sc.names.lookup y with | some .local => true | _ => false) := by
      unfold PySem.Env.kindOf
      rw [hs]
      cases sc.names.lookup y with
      | none => rfl
      | some k => cases k <;> rfl
    simp only [hb]
    rw [e1]
    rfl
  | SetComp _ _ _ _ => cases hv
  | DictComp _ _ _ _ _ => cases hv
  | _ => rfl
theorem notLC_sw {v : Expr} (h : notLC v = true) {t : Option Expr} {l : Nat} : swapsWith v t l X.env = pure false := by
  cases v <;> first | rfl | cases h
end
end Den
namespace Den
open PySem PySem.Spec PyProof.Rows L2
section
variable {C : Cfg} {fn : Nat → List D → R D} {fu : Nat} {W : WX} {cls : Nat → Value} {X : Cx} {G0 H0 : Hp}
theorem sole_sw {t v : Expr} {l : Nat} {env : PySem.Env} (h : notLC v = true) : swapsWithSole [t] v l env = pure false := by
  cases v <;> first | rfl | cases h
theorem isOwnF {T : Tbl} {i : Nat} (h : (!T.isOwn i) = true) : T.isOwn i = false := by cases q : T.isOwn i <;> simp_all
/-- name = expression, whatever the frame of a comprehension does with the name: what the expression's reading must bring -/
theorem ps_store (c : CtxD C fn W cls X) {i : Nat} {y : Str} {py p : Pos} {e : Ex} {v : Expr} {t : TS} (hn : nmAt C.T C.sc i y = true) (hm : mE C.T e C.sc v = true) (ho : okLC v = true) (hs : (!swB C.sc y py v || isComp e) = true)
    (h : ∀ D σ H, t D σ H → tE C.T fn W cls X.K e σ H fun x H1 => D.nx (σ.set i (some x)) H1) : PS X (.Assign [.Name y py] v p) t := by
  obtain ⟨n1, n2, n3, n4⟩ := nmAt_ok c.c hn
  cases hb : swB C.sc y py v with
  | false => exact ps_imp (ps_set n1 n2 n3 (snd_all e c.c hm).pe (by rw [swB_ok c.kind c.c.hs ho, hb]) n4) h
  | true =>
    have hy : X.env.scope.names.lookup y = some .local := by
      unfold swB at hb
      split at hb
      · rw [Bool.and_eq_true, Bool.and_eq_true] at hb
        have hl := hb.1.1
        rw [c.c.hs]
        split at hl
        · assumption
        · cases hl
      · cases hb
    have hsw : swapsWith v (some (.Name y py)) p.line X.env = pure true := by rw [swB_ok c.kind c.c.hs ho, hb]
    rw [hb] at hs
    cases e with
    | comp it tg own a =>
      unfold mE at hm
      split at hm
      · rename_i l g it' ifs k scope p'
        simp only [Bool.and_eq_true, decide_eq_true_eq] at hm
        obtain ⟨⟨⟨⟨⟨⟨⟨⟨⟨h1, rfl⟩, h3⟩, h4⟩, h5⟩, h6⟩, h7⟩, h8⟩, h9⟩, h10⟩ := hm
        cases ifs with
        | cons _ _ => cases h1
        | nil =>
          refine ps_imp (ps_setLcx (W := W) (own := ownP C.T own) (g := gT X.K tg) (tt := tYes) (te := fun V => tE C.T fn V cls X.K a) c.c.calm n1 n2 hy hsw c.c.frm c.c.tkh (sndi_all it c.c h3) (blkOk_by (by rw [c.c.hN, c.c.hs]; exact h8))
            (fun s H c' cl fp => (tg_ok (c.c.blk s H scope c' cl fp) h5).1) (fun _ _ _ _ _ => pts_nil) (fun V s H c' cl fp => (snd_all a (c.c.blkX s H scope c' cl fp V) h9).pe) (plE_set h4)) fun D σ H q => ?_
          rw [ownP_snd]
          exact comp_imp h6 h7 h10 (h D σ H q)
      · cases hm
    | compIf it tg own cc a =>
      unfold mE at hm
      split at hm
      · rename_i l g it' ifs k scope p'
        simp only [Bool.and_eq_true, decide_eq_true_eq] at hm
        obtain ⟨⟨⟨⟨⟨⟨⟨⟨⟨h1, rfl⟩, h3⟩, h4⟩, h5⟩, h6⟩, h7⟩, h8⟩, h9⟩, h10⟩ := hm
        match ifs, h1 with
        | [t], h1 =>
          simp only [Bool.and_eq_true] at h1
          refine ps_imp (ps_setLc (own := ownP C.T own) (g := gT X.K tg) (tt := tT C.T fn W0 cls X.K cc) (te := tE C.T fn W0 cls X.K a) c.c.calm n1 n2 hy hsw (sndi_all it c.c h3) (blkOk_by (by rw [c.c.hN, c.c.hs]; exact h8))
            (fun s H c' cl fp => (tg_ok (c.c.blk s H scope c' cl fp) h5).1) (fun s H c' cl fp => pts_one ((snd_all cc (c.c.blk s H scope c' cl fp) h1.1).pt h1.2)) (fun s H c' cl fp => (snd_all a (c.c.blk s H scope c' cl fp) h9).pe) (plE_set h4)) fun D σ H q => ?_
          rw [ownP_snd]
          exact compIf_imp h6 h7 h10 (h D σ H q)
      · cases hm
    | _ => simp [isComp] at hs
abbrev tCd (C : Cfg) (fn : Nat → List D → R D) (fu : Nat) (W : WX) (cls : Nat → Value) (K : PySem.W.Frag) (G0 H0 : Hp) (x : Cmd) : TS := tCm C fn fu W cls K G0 H0 (evC fn fu x)
/-- .. whose value may be shared -/
theorem thenS {e : Ex} {G H : Hp} {ρ : Env} {σ : L2.St} {f : D → O} {D : Ends} {P : VK} (hn : nB C.T e = true) (I : SI X.K C.T.isOwn G0 H0 G ρ σ H) (h : WantC W cls X.K C.T.isOwn C.fr G0 H0 (thenO (ev fn e ρ) ρ f) G D)
    (q : ∀ z v H1 G1, Stp G H G1 H1 → SI X.K C.T.isOwn G0 H0 G1 ρ σ H1 → Rp X.K G1 v z → WantC W cls X.K C.T.isOwn C.fr G0 H0 (f z) G1 D → P v H1) : tE C.T fn W cls X.K e σ H P := by
  refine ⟨G, ρ, I.F, ?_⟩
  cases e1 : ev fn e ρ with
  | ok z =>
    rw [e1] at h
    intro v H' G' t p
    obtain ⟨G3, t3, r3⟩ := p.toS (nB_ne hn) t
    exact q z v H' G3 t3 (I.step t3) r3 (WantC.shift t3.g h)
  | exc c =>
    rw [e1] at h
    exact fun H' G' t => h σ H' G' t.g (I.step t)
  | bad => rw [e1] at h; exact h
theorem isK_ok {T : Tbl} {k : Kd} {e : Ex} (h : isK T k e = true) : kd T e = k := of_decide_eq_true h
theorem own_lst {K : PySem.W.Frag} {own : Nat → Bool} {G H : Hp} {ρ : Env} {σ : L2.St} {i : Nat} {ds : List D} (F : FI K own G ρ σ H) (hi : own i = true) (e : ρ[i]? = some (some (.lst ds))) :
    ∃ a xs, σ[i]? = some (some (.ref a)) ∧ H a = some (.lst xs) ∧ RpL K G xs ds := by
  obtain ⟨a, o, e1, ho, hg, r⟩ := F.ow i _ hi e
  cases r with
  | lst r => exact ⟨a, _, e1, ho, r⟩
theorem cm_set (c : CtxD C fn W cls X) {i : Nat} {e : Ex} {s : Stmt} (h : mC C (.set i e) s = true) : PS X s (tCd C fn fu W cls X.K G0 H0 (.set i e)) := by
  unfold mC at h
  split at h
  · simp only [Bool.and_eq_true] at h
    obtain ⟨⟨⟨⟨⟨h1, h2⟩, h3⟩, h4⟩, h5⟩, h6⟩ := h
    refine ps_store c h1 h4 h5 h6 fun D σ H q => ?_
    obtain ⟨G, ρ, I, q⟩ := q
    exact thenS h3 I q fun z v H1 G1 t1 I1 r1 q1 => wantC_nx (I1.setS (isOwnF h2) r1) q1
  · cases h
theorem cm_own (c : CtxD C fn W cls X) {i : Nat} {e : Ex} {s : Stmt} (h : mC C (.own i e) s = true) : PS X s (tCd C fn fu W cls X.K G0 H0 (.own i e)) := by
  unfold mC at h
  split at h
  · simp only [Bool.and_eq_true] at h
    obtain ⟨⟨⟨⟨⟨h1, h2⟩, h3⟩, h4⟩, h5⟩, h6⟩ := h
    refine ps_store c h1 h4 h5 h6 fun D σ H q => ?_
    obtain ⟨G, ρ, I, q⟩ := q
    refine thenE I q fun z v H1 G1 t1 I1 p1 q1 => ?_
    rw [isK_ok h3] at p1
    obtain ⟨a, o, rfl, n, ho, hg, r⟩ := p1
    exact wantC_nx (I.setO h2 t1 n ho hg r) q1
  · cases h
theorem gNs_readI {K : PySem.W.Frag} {own : Nat → Bool} : ∀ (is : List Nat) (G H : Hp) (ρ ρ' : Env) (σ : L2.St) (vs : List V) (zs : List D) (Q : L2.St → Hp → Prop), (∀ i ∈ is, own i = false) → SI K own G0 H0 G ρ σ H → RpL K G vs zs → setVs ρ is zs = .ok ρ' →
      (∀ σ', SI K own G0 H0 G ρ' σ' H → Q σ' H) → gNs is vs σ H Q
  | [], G, H, ρ, ρ', σ, vs, zs, Q, ho, F, r, e, q => by
    cases zs with
    | nil =>
      cases e
      cases r
      exact ⟨rfl, q σ F⟩
    | cons _ _ => cases e
  | i :: is, G, H, ρ, ρ', σ, vs, zs, Q, ho, F, r, e, q => by
    cases zs with
    | nil => cases e
    | cons z zs =>
      cases r with
      | cons r rr =>
        exact ⟨_, _, rfl, gNs_readI is G H (setV ρ i z) ρ' _ _ zs Q (fun j hj => ho j (List.mem_cons_of_mem _ hj)) (F.setS (ho i (by simp)) r) rr e q⟩
/-- a row of names from a tuple or a list that may be own -/
theorem gM_readI {K : PySem.W.Frag} {own : Nat → Bool} {is : List Nat} {G H : Hp} {ρ ρ' : Env} {σ : L2.St} {v : V} {z : D} {Q : L2.St → Hp → Prop} (ho : ∀ i ∈ is, own i = false) (F : SI K own G0 H0 G ρ σ H) (r : PB K G H v z) (e : bindT ρ (.many is) z = .ok ρ')
    (q : ∀ σ', SI K own G0 H0 G ρ' σ' H → Q σ' H) : gT K (.many is) v σ H Q := by
  cases z with
  | tup ds =>
    obtain ⟨g1, g2⟩ := guard_ok e
    have r : ∃ a xs, v = .ref a ∧ SqT K G a xs ∧ RpL K G xs ds := by
      rcases r with r | ⟨a, o, rfl, _, _, r⟩
      · exact tup_inv r
      · cases r
    obtain ⟨a, xs, rfl, h1, h2⟩ := r
    exact .inl ⟨a, xs, rfl, seqT F.F.sub h1, by rw [h2.len]; exact of_decide_eq_true g1, gNs_readI is G H ρ ρ' σ xs ds Q ho F h2 g2 q⟩
  | lst ds =>
    obtain ⟨g1, g2⟩ := guard_ok e
    have r : ∃ a xs, v = .ref a ∧ SqL K H a xs ∧ RpL K G xs ds := by
      rcases r with r | ⟨a, o, rfl, ho, _, r⟩
      · obtain ⟨a, xs, rfl, h1, h2⟩ := lst_inv r
        exact ⟨a, xs, rfl, F.F.sub.seq h1, h2⟩
      · cases r with
        | lst l => exact ⟨a, _, rfl, SqL.of ho, l⟩
    obtain ⟨a, xs, rfl, h1, h2⟩ := r
    exact .inr ⟨a, xs, rfl, h1, by rw [h2.len]; exact of_decide_eq_true g1, gNs_readI is G H ρ ρ' σ xs ds Q ho F h2 g2 q⟩
  | _ => cases e
theorem gT_readI {K : PySem.W.Frag} {own : Nat → Bool} {tg : Tg} {G H : Hp} {ρ ρ' : Env} {σ : L2.St} {v : V} {z : D} {Q : L2.St → Hp → Prop} (ho : ∀ i ∈ tgS tg, own i = false) (F : SI K own G0 H0 G ρ σ H) (r : Rp K G v z) (e : bindT ρ tg z = .ok ρ')
    (q : ∀ σ', SI K own G0 H0 G ρ' σ' H → Q σ' H) : gT K tg v σ H Q := by
  cases tg with
  | one i =>
    cases e
    exact q _ (F.setS (ho i (by simp [tgS])) r)
  | many is => exact gM_readI ho F (.inl r) e q
  | nest is j =>
    obtain ⟨ds, w, ρ1, rfl, hl, e1, rfl⟩ := nest_inv e
    obtain ⟨a, xs, rfl, h1, h2⟩ := tup_inv r
    cases h2 with
    | cons r1 h2 =>
      cases h2 with
      | cons r2 h2 =>
        cases h2
        obtain ⟨b, ys, rfl, h3, h4⟩ := tup_inv r1
        refine ⟨a, _, rfl, seqT F.F.sub h1, rfl, _, _, rfl, ⟨b, ys, rfl, seqT F.F.sub h3, by rw [h4.len]; exact hl, ?_⟩⟩
        exact gNs_readI is G H ρ ρ1 σ ys ds _ (fun i hi => ho i (List.mem_cons_of_mem _ hi)) F h4 e1 fun σ' F' => ⟨_, _, rfl, rfl, q _ (F'.setS (ho j (by simp [tgS])) r2)⟩
theorem setVs_ne : ∀ (is : List Nat) (ds : List Den.D) (ρ : Env) (c : Nat), setVs ρ is ds ≠ .exc c
  | [], [], _, _ => fun q => nomatch q
  | [], _ :: _, _, _ => fun q => nomatch q
  | _ :: _, [], _, _ => fun q => nomatch q
  | i :: is, d :: ds, ρ, c => setVs_ne is ds _ c
theorem bindT_ne (ρ : Env) (tg : Tg) (z : D) : ∀ c, bindT ρ tg z ≠ .exc c := by
  intro c
  cases tg with
  | one i => exact ne_ok c
  | many is =>
    cases z with
    | tup ds => exact ne_guard (setVs_ne is ds ρ) c
    | lst ds => exact ne_guard (setVs_ne is ds ρ) c
    | _ => exact ne_bad c
  | nest is j =>
    intro e
    unfold bindT at e
    split at e
    · cases ‹Tg.nest is j = Tg.one _›
    · cases ‹Tg.nest is j = Tg.many _›
    · cases ‹Tg.nest is j = Tg.many _›
    · cases ‹Tg.nest is j = Tg.many _›
    · exact ne_guard (ne_bind (setVs_ne _ _ _) fun _ => ne_ok) c e
    · exact ne_bad c e
theorem cm_tgt (c : CtxD C fn W cls X) {is : List Nat} {e : Ex} {s : Stmt} (h : mC C (.tgt is e) s = true) : PS X s (tCd C fn fu W cls X.K G0 H0 (.tgt is e)) := by
  unfold mC at h
  split at h
  · simp only [Bool.and_eq_true] at h
    obtain ⟨⟨⟨h1, h3⟩, h4⟩, h5⟩ := h
    rename_i es k p v p2
    obtain ⟨ht, hl, hx, hq⟩ := names_ok c.c h1
    refine ps_imp (ps_asg (snd_all e c.c h3).pe (pg_or (pg_tup (k := k) (pos := p) c.c.calm ht hl hx) (pg_unl (k := k) (pos := p) c.c.calm ht hl hx)) (sole_sw h4) (by cases v <;> first | rfl | cases h5) rfl) fun D σ H q => ?_
    obtain ⟨G, ρ, I, q⟩ := q
    refine thenE I q fun z v H1 G1 t1 I1 r1 q1 => ?_
    obtain ⟨ρ', e2, q2⟩ := thenD (bindT_ne _ _ _) q1
    exact gM_readI hq I1 r1.toB e2 fun σ' I' => wantC_nx I' q2
  · cases h
theorem cm_mov (c : CtxD C fn W cls X) {i j : Nat} {s : Stmt} (h : mC C (.mov i j) s = true) : PS X s (tCd C fn fu W cls X.K G0 H0 (.mov i j)) := by
  unfold mC at h
  split at h
  · simp only [Bool.and_eq_true] at h
    obtain ⟨⟨⟨h1, h2⟩, h3⟩, h4⟩ := h
    obtain ⟨n1, n2, n3, n4⟩ := nmAt_ok c.c h1
    refine ps_imp (ps_set n1 n2 n3 (rdAt_ok c.c h3) rfl n4) fun D σ H q => ?_
    obtain ⟨G, ρ, I, q⟩ := q
    obtain ⟨z, e1, q1⟩ := thenD (getV_ne _ _) q
    obtain ⟨a, o, G1, e2, ho, hG, t, sg, r, I1⟩ := I.free h4 (getV_ok e1)
    exact ⟨_, e2, wantC_nx (I1.setS (isOwnF h2) r) (WantC.shift sg q1)⟩
  · cases h
theorem cm_aug (c : CtxD C fn W cls X) {i : Nat} {b : Bool} {e : Ex} {s : Stmt} (h : mC C (.aug i b e) s = true) : PS X s (tCd C fn fu W cls X.K G0 H0 (.aug i b e)) := by
  unfold mC at h
  split at h
  · simp only [Bool.and_eq_true, decide_eq_true_eq] at h
    obtain ⟨⟨⟨h1, h2⟩, h3⟩, h4⟩ := h
    obtain ⟨n1, n2, n3, n4⟩ := nmAt_ok c.c h1
    subst h3
    have ip : PIp X (if b then .Sub else .Add) (ipI fun x y => if b then x - y else x + y) := by
      cases b with
      | true => exact ip_sub
      | false => exact ip_add
    refine ps_imp (ps_aug n1 n2 n3 (snd_all e c.c h4).pe ip n4) fun D σ H q => ?_
    obtain ⟨G, ρ, I, q⟩ := q
    obtain ⟨x, e1, q1⟩ := thenD (getV_ne _ _) q
    obtain ⟨v, e2, r⟩ := I.F.sh i x (isOwnF h2) (getV_ok e1)
    refine ⟨v, e2, ?_⟩
    refine thenE I q1 fun z w H1 G1 t1 I1 p1 q2 => ?_
    obtain ⟨u, e3, q3⟩ := thenD (ne_bind (asInt_ne _) fun _ => ne_bind (asInt_ne _) fun _ => ne_ok) q2
    obtain ⟨m, f1, e4⟩ := bind_okE e3
    obtain ⟨n, f2, e5⟩ := bind_okE e4
    cases e5
    have g1 := asInt_ok f1
    have g2 := asInt_ok f2
    subst g1 g2
    exact ⟨m, n, int_inv r, p1.int, wantC_nx (I1.setS (isOwnF h2) (.int _)) q3⟩
  · cases h
theorem cm_setIx (c : CtxD C fn W cls X) {i : Nat} {k e : Ex} {s : Stmt} (h : mC C (.setIx i k e) s = true) : PS X s (tCd C fn fu W cls X.K G0 H0 (.setIx i k e)) := by
  unfold mC at h
  split at h
  · simp only [Bool.and_eq_true] at h
    obtain ⟨⟨⟨⟨⟨⟨h1, h2⟩, h3⟩, h4⟩, h5⟩, h6⟩, h7⟩ := h
    rename_i x p0 r p1 v p2
    refine ps_imp (ps_asg (snd_all e c.c h6).pe (pg_sub (rdAt_ok c.c h1) (snd_all k c.c h3).pe set_list (by intro _; cases r <;> first | rfl | cases h4)) (sole_sw h7) rfl rfl) fun D σ H q => ?_
    obtain ⟨G, ρ, I, q⟩ := q
    refine thenS h5 I q fun z v H1 G1 t1 I1 r1 q1 => ?_
    obtain ⟨ds, e1, q2⟩ := thenD (lstV_ne _ _) q1
    have e1 := lstV_ok e1
    obtain ⟨a, xs, e2, ho, hr⟩ := own_lst I1.F h2 e1
    refine ⟨_, e2, ?_⟩
    refine thenE I1 q2 fun y w H2 G2 t2 I2 p2 q3 => ?_
    obtain ⟨j, e3, q4⟩ := thenD (ne_bind (asInt_ne _) fun _ => someR_ne _) q3
    obtain ⟨m, f1, f2⟩ := bind_okE e3
    have g1 := asInt_ok f1
    subst g1
    refine ⟨a, xs, m, j, rfl, p2.int, t2.h _ _ ho, by rw [hr.len]; exact someR_ok f2, ?_⟩
    exact wantC_nx (I2.upd h2 e1 e2 (.lst ((hr.mono t2.g).set (r1.mono t2.g) j))) q4
  · cases h
theorem own_dct {K : PySem.W.Frag} {own : Nat → Bool} {G H : Hp} {ρ : Env} {σ : L2.St} {i : Nat} {ks : List Key} {ds : List D} (F : FI K own G ρ σ H) (hi : own i = true) (e : ρ[i]? = some (some (.dct false ks ds))) :
    ∃ a kvs, σ[i]? = some (some (.ref a)) ∧ H a = some (.dK kvs) ∧ kvs.map (·.1) = ks ∧ RpL K G (kvs.map (·.2)) ds := by
  obtain ⟨a, o, e1, ho, hg, r⟩ := F.ow i _ hi e
  cases r with
  | dct r => exact ⟨a, _, e1, ho, rfl, r⟩
theorem own_dcT {K : PySem.W.Frag} {own : Nat → Bool} {G H : Hp} {ρ : Env} {σ : L2.St} {i : Nat} {ks : List (List Key)} {ds : List D} (F : FI K own G ρ σ H) (hi : own i = true) (e : ρ[i]? = some (some (.dcT ks ds))) :
    ∃ a kvs, σ[i]? = some (some (.ref a)) ∧ H a = some (.dT kvs) ∧ kvs.map (·.1) = ks ∧ RpL K G (kvs.map (·.2)) ds := by
  obtain ⟨a, o, e1, ho, hg, r⟩ := F.ow i _ hi e
  cases r with
  | dcT r => exact ⟨a, _, e1, ho, rfl, r⟩
section
variable {κ : Type} [DecidableEq κ] {K : PySem.W.Frag} {G : Hp}
theorem any_key (k : κ) : ∀ kvs : List (κ × V), ((kvs.any fun kv => decide (kv.1 = k)) = true) ↔ k ∈ kvs.map (·.1)
  | [] => by simp
  | p :: r => by
    rw [List.any_cons, Bool.or_eq_true, any_key k r, List.map_cons, List.mem_cons, decide_eq_true_eq]
    constructor
    · rintro (h | h)
      · exact .inl h.symm
      · exact .inr h
    · rintro (h | h)
      · exact .inl h.symm
      · exact .inr h
theorem put_keys (kvs : List (κ × V)) (k : κ) (v : V) : (putK kvs k v).map (·.1) = puK (kvs.map (·.1)) k := by
  unfold putK puK
  by_cases h : (kvs.any fun kv => decide (kv.1 = k)) = true
  · rw [if_pos h, if_pos ((any_key k kvs).mp h), List.map_map]
    apply List.map_congr_left
    intro p _
    show (if p.1 = k then (p.1, v) else p).1 = p.1
    split <;> rfl
  · rw [if_neg h, if_neg (fun q => h ((any_key k kvs).mpr q)), List.map_append]
    rfl
theorem put_repl {k : κ} {v : V} {z : D} (r : Rp K G v z) : ∀ {kvs : List (κ × V)} {ds : List D}, RpL K G (kvs.map (·.2)) ds → RpL K G ((kvs.map fun kv => if kv.1 = k then (kv.1, v) else kv).map (·.2)) (puR k z (kvs.map (·.1)) ds)
  | [], [], _ => .nil
  | [], _ :: _, h => by cases h
  | _ :: _, [], h => by cases h
  | p :: kvs, d :: ds, h => by
    rw [List.map_cons] at h
    cases h with
    | cons h t =>
      rw [List.map_cons, List.map_cons, List.map_cons]
      unfold puR
      by_cases e : p.1 = k
      · rw [if_pos e, if_pos e]
        exact .cons r (put_repl r t)
      · rw [if_neg e, if_neg e]
        exact .cons h (put_repl r t)
theorem put_vals {kvs : List (κ × V)} {ds : List D} {k : κ} {v : V} {z : D} (l : RpL K G (kvs.map (·.2)) ds) (r : Rp K G v z) : RpL K G ((putK kvs k v).map (·.2)) (puV (kvs.map (·.1)) ds k z) := by
  unfold putK puV
  by_cases h : (kvs.any fun kv => decide (kv.1 = k)) = true
  · rw [if_pos h, if_pos ((any_key k kvs).mp h)]
    exact put_repl r l
  · rw [if_neg h, if_neg (fun q => h ((any_key k kvs).mpr q)), List.map_append]
    exact l.append (.cons r .nil)
end
theorem put_dct {K : PySem.W.Frag} {G : Hp} {kvs : List (Key × V)} {ds : List D} {k : Key} {v : V} {z : D} (l : RpL K G (kvs.map (·.2)) ds) (r : Rp K G v z) : RpO K G (.dK (putK kvs k v)) (.dct false (puK (kvs.map (·.1)) k) (puV (kvs.map (·.1)) ds k z)) := by
  rw [← put_keys kvs k v]
  exact .dct (put_vals l r)
theorem put_dcT {K : PySem.W.Frag} {G : Hp} {kvs : List (List Key × V)} {ds : List D} {k : List Key} {v : V} {z : D} (l : RpL K G (kvs.map (·.2)) ds) (r : Rp K G v z) : RpO K G (.dT (putK kvs k v)) (.dcT (puK (kvs.map (·.1)) k) (puV (kvs.map (·.1)) ds k z)) := by
  rw [← put_keys kvs k v]
  exact .dcT (put_vals l r)
theorem keysD_ok {K : PySem.W.Frag} {G : Hp} : ∀ {ds : List Den.D} {vs : List V} {ks : List Key}, RpL K G vs ds → keysD ds = some ks → vs = ks.map kV
  | [], _, _, .nil, h => by cases h; rfl
  | d :: ds, _, _, .cons r l, h => by
    unfold keysD at h
    obtain ⟨k, h1, h2⟩ := Option.bind_eq_some_iff.mp h
    obtain ⟨q, h3, rfl⟩ := Option.map_eq_some_iff.mp h2
    rw [List.map_cons, ← keysD_ok l h3]
    congr 1
    cases d with
    | int i => cases h1; rw [int_inv r]; rfl
    | str i => cases h1; rw [str_inv r]; rfl
    | _ => cases h1
theorem keysD_len : ∀ {ds : List Den.D} {ks : List Key} {n : Nat}, keysD ds = some ks → ds.length = n → ks.length = n
  | [], _, _, h, e => by cases h; exact e
  | d :: ds, _, n, h, e => by
    unfold keysD at h
    obtain ⟨k, h1, h2⟩ := Option.bind_eq_some_iff.mp h
    obtain ⟨q, h3, rfl⟩ := Option.map_eq_some_iff.mp h2
    rw [List.length_cons, keysD_len h3 rfl, ← e, List.length_cons]
theorem thenLs {es : Exs} {G H : Hp} {ρ : Env} {σ : L2.St} {f : List Den.D → O} {D : Ends} {P : List V → Hp → Prop} (I : SI X.K C.T.isOwn G0 H0 G ρ σ H) (h : WantC W cls X.K C.T.isOwn C.fr G0 H0 (thenO (evs fn es ρ) ρ f) G D)
    (q : ∀ zs vs H1 G1, evs fn es ρ = .ok zs → Stp G H G1 H1 → SI X.K C.T.isOwn G0 H0 G1 ρ σ H1 → RpL X.K G1 vs zs → WantC W cls X.K C.T.isOwn C.fr G0 H0 (f zs) G1 D → P vs H1) : tL C.T fn W cls X.K true es σ H P := by
  refine ⟨G, ρ, I.F, ?_⟩
  cases e1 : evs fn es ρ with
  | ok z =>
    rw [e1] at h
    exact fun v H' G' t p => q z v H' G' e1 t (I.step t) p (WantC.shift t.g h)
  | exc c =>
    rw [e1] at h
    exact fun H' G' t => h σ H' G' t.g (I.step t)
  | bad => rw [e1] at h; exact h
theorem cm_dput (c : CtxD C fn W cls X) {i : Nat} {k e : Ex} {s : Stmt} (h : mC C (.dput i k e) s = true) : PS X s (tCd C fn fu W cls X.K G0 H0 (.dput i k e)) := by
  have hu := c.c.un
  unfold mC at h
  split at h
  · simp only [Bool.and_eq_true] at h
    obtain ⟨⟨⟨⟨⟨⟨h1, h2⟩, h3⟩, h4⟩, h5⟩, h6⟩, h7⟩ := h
    refine ps_imp (ps_dput (by omega) (rdAt_ok c.c h1) (snd_all k c.c h3).pe (snd_all e c.c h6).pe (notLC_sw h7)) fun D σ H q => ?_
    obtain ⟨G, ρ, I, q⟩ := q
    refine thenS h5 I q fun z v H1 G1 t1 I1 r1 q1 => ?_
    obtain ⟨p, e1, q2⟩ := thenD (dctV_ne _ _) q1
    have e1 := dctV_ok e1
    obtain ⟨a, kvs, e2, ho, hk, hr⟩ := own_dct I1.F h2 e1
    refine ⟨_, e2, ?_⟩
    refine thenE I1 q2 fun y w H2 G2 t2 I2 p2 q3 => ?_
    obtain ⟨kk, e3, q4⟩ := thenD (someR_ne _) q3
    split at q4
    · rename_i hl
      rw [← hk, List.length_map] at hl
      have ew : w = kV kk := p2.toB.key (someR_ok e3)
      subst ew
      refine ⟨a, _, rfl, DPut.k (t2.h _ _ ho) (by rw [sizeLn]; exact hl), ?_⟩
      rw [← hk] at q4
      exact wantC_nx (I2.upd h2 e1 e2 (put_dct (hr.mono t2.g) (r1.mono t2.g))) q4
    · exact q4.elim
  · cases h
theorem cm_dputT (c : CtxD C fn W cls X) {i : Nat} {k : Exs} {e : Ex} {s : Stmt} (h : mC C (.dputT i k e) s = true) : PS X s (tCd C fn fu W cls X.K G0 H0 (.dputT i k e)) := by
  have hu := c.c.un
  unfold mC at h
  split at h
  · simp only [Bool.and_eq_true, decide_eq_true_eq] at h
    obtain ⟨⟨⟨⟨⟨⟨h1, h2⟩, h3⟩, h4⟩, h5⟩, h6⟩, h7⟩ := h
    refine ps_imp (ps_dput (by omega) (rdAt_ok c.c h1) (pe_tup (snds_all k c.c h3)) (snd_all e c.c h6).pe (notLC_sw h7)) fun D σ H q => ?_
    obtain ⟨G, ρ, I, q⟩ := q
    refine thenS h5 I q fun z v H1 G1 t1 I1 r1 q1 => ?_
    obtain ⟨p, e1, q2⟩ := thenD (dcTV_ne _ _) q1
    have e1 := dcTV_ok e1
    obtain ⟨a, kvs, e2, ho, hk, hr⟩ := own_dcT I1.F h2 e1
    refine ⟨_, e2, ?_⟩
    refine thenLs I1 q2 fun ys ws H2 G2 ee t2 I2 p2 q3 => ?_
    obtain ⟨kk, e3, q4⟩ := thenD (someR_ne _) q3
    split at q4
    · rename_i hl
      rw [← hk, List.length_map] at hl
      have ew : ws = kk.map kV := keysD_ok p2 (someR_ok e3)
      subst ew
      refine ⟨?_, fun b hb => ?_⟩
      · rw [sizeLn, List.length_map]
        exact Nat.le_trans (Nat.le_of_eq (keysD_len (someR_ok e3) (evs_len h3 ee))) h4
      have t3 : Stp G2 H2 (L2.upd G2 b (.tup (kk.map kV))) (L2.upd H2 b (.tup (kk.map kV))) := Stp.newS I2.F.ok hb
      have I3 := I2.step t3
      refine ⟨a, _, rfl, DPut.t (t3.h _ _ (t2.h _ _ ho)) upd_same (by rw [sizeLn]; exact hl), ?_⟩
      rw [← hk] at q4
      exact wantC_nx (I3.upd h2 e1 e2 (put_dcT ((hr.mono t2.g).mono t3.g) ((r1.mono t2.g).mono t3.g))) (WantC.shift t3.g q4)
    · exact q4.elim
  · cases h
theorem cm_movD (c : CtxD C fn W cls X) {i j : Nat} {s : Stmt} (h : mC C (.movD i j) s = true) : PS X s (tCd C fn fu W cls X.K G0 H0 (.movD i j)) := by
  unfold mC at h
  split at h
  · simp only [Bool.and_eq_true] at h
    obtain ⟨⟨⟨h1, h2⟩, h3⟩, h4⟩ := h
    obtain ⟨n1, n2, n3, n4⟩ := nmAt_ok c.c h1
    refine ps_imp (ps_set n1 n2 n3 (pe_keep (rdAt_ok c.c h3)) rfl n4) fun D σ H q => ?_
    obtain ⟨G, ρ, I, q⟩ := q
    obtain ⟨p, e1, q1⟩ := thenD (dctV_ne _ _) q
    have e1 := dctV_ok e1
    obtain ⟨a, kvs, e2, ho, hk, hr⟩ := own_dct I.F h4 e1
    refine ⟨_, e2, a, _, rfl, ho, trivial, fun od => ?_⟩
    obtain ⟨sg, I1⟩ := I.keep (o' := .frz od (.dK kvs)) h4 e1 e2
    rw [← hk] at q1
    exact wantC_nx (I1.setS (isOwnF h2) (.dctL upd_same (hr.mono sg))) (WantC.shift sg q1)
  · cases h
theorem few1 {v : Expr} {cp : Pos} (h : plE v = true) : ((backTo cp (starEach [v] X.env)).all (fun x => !x.1) && (backToKw cp (keywordEach [] X.env)).all (fun x => x.1.isSome)
      && decide (([v] : List Expr).length + ([] : List Keyword).length + (if ([] : List Keyword).isEmpty then 0 else 1) < 30)) = true := by
  rw [plE_star h]; rfl
theorem tyV_lst {K : PySem.W.Frag} {a : Addr} {H : Hp} {xs : List V} (h : H a = some (.lst xs)) : tyV K "list" (.ref a) H := .inl ⟨rfl, _, SqL.of h⟩
theorem cm_app (c : CtxD C fn W cls X) {i : Nat} {e : Ex} {s : Stmt} (h : mC C (.app i e) s = true) : PS X s (tCd C fn fu W cls X.K G0 H0 (.app i e)) := by
  unfold mC at h
  split at h
  · simp only [Bool.and_eq_true, decide_eq_true_eq] at h
    obtain ⟨⟨⟨⟨⟨⟨h0, hl0⟩, h1⟩, h2⟩, h3⟩, h4⟩, h5⟩ := h
    subst h0
    refine ps_imp (ps_expr (pe_bm PySem.F.plainAttrs_list PySem.F.slot_list_append PySem.F.type_list_append mt_append (rdAt_ok c.c h1) (pa_cons (snd_all e c.c h4).pe pa_nil (plE_star h5)) rfl (few1 h5) hl0 (plE_star h5))) fun D σ H q => ?_
    obtain ⟨G, ρ, I, q⟩ := q
    obtain ⟨ds, e1, q1⟩ := thenD (lstV_ne _ _) q
    have e1 := lstV_ok e1
    obtain ⟨a, xs, e2, ho, hr⟩ := own_lst I.F h2 e1
    refine ⟨_, e2, tyV_lst ho, ?_⟩
    refine thenS h3 I q1 fun z v H1 G1 t1 I1 r1 q2 => ?_
    split at q2
    · rename_i hl
      refine ⟨a, xs, v, rfl, rfl, t1.h _ _ ho, by rw [hr.len, sizeLn]; exact hl, ?_⟩
      exact wantC_nx (I1.upd h2 e1 e2 (.lst ((hr.mono t1.g).append (.cons r1 .nil)))) q2
    · exact q2.elim
  · cases h
theorem cm_appM (c : CtxD C fn W cls X) {i j : Nat} {s : Stmt} (h : mC C (.appM i j) s = true) : PS X s (tCd C fn fu W cls X.K G0 H0 (.appM i j)) := by
  unfold mC at h
  split at h
  · simp only [Bool.and_eq_true, decide_eq_true_eq] at h
    obtain ⟨⟨⟨⟨⟨⟨h0, hl0⟩, h1⟩, h2⟩, h3⟩, h4⟩, h5⟩ := h
    subst h0
    refine ps_imp (ps_expr (pe_bm PySem.F.plainAttrs_list PySem.F.slot_list_append PySem.F.type_list_append mt_append (rdAt_ok c.c h1) (pa_cons (rdAt_ok c.c h3) pa_nil) rfl rfl hl0)) fun D σ H q => ?_
    obtain ⟨G, ρ, I, q⟩ := q
    obtain ⟨ds, e1, q1⟩ := thenD (lstV_ne _ _) q
    have e1 := lstV_ok e1
    obtain ⟨a, xs, e2, ho, hr⟩ := own_lst I.F h2 e1
    obtain ⟨z, f1, q2⟩ := thenD (getV_ne _ _) q1
    obtain ⟨b, o, G1, g2, hb, hG, t, sg, r, I1⟩ := I.free h4 (getV_ok f1)
    refine ⟨_, e2, tyV_lst ho, _, g2, ?_⟩
    split at q2
    · rename_i hl
      refine ⟨a, xs, .ref b, rfl, rfl, ho, by rw [hr.len, sizeLn]; exact hl, ?_⟩
      have e3 : (ρ.set j none)[i]? = some (some (.lst ds)) := by rw [List.getElem?_set_ne (fun q => h5 q.symm)]; exact e1
      exact wantC_nx (I1.upd h2 e3 e2 (.lst ((hr.mono sg).append (.cons r .nil)))) (WantC.shift sg q2)
    · exact q2.elim
  · cases h
/-- arguments, then the rest -/
theorem thenL {es : Exs} {G H : Hp} {ρ : Env} {σ : L2.St} {f : List D → O} {D : Ends} {P : List V → Hp → Prop} (I : SI X.K C.T.isOwn G0 H0 G ρ σ H) (h : WantC W cls X.K C.T.isOwn C.fr G0 H0 (thenO (evs fn es ρ) ρ f) G D)
    (q : ∀ zs vs H1 G1, evs fn es ρ = .ok zs → Stp G H G1 H1 → SI X.K C.T.isOwn G0 H0 G1 ρ σ H1 → RpL X.K G1 vs zs → WantC W cls X.K C.T.isOwn C.fr G0 H0 (f zs) G1 D → P vs H1) : tL C.T fn W cls X.K true es σ H P := by
  refine ⟨G, ρ, I.F, ?_⟩
  cases e1 : evs fn es ρ with
  | ok z =>
    rw [e1] at h
    exact fun v H' G' t p => q z v H' G' e1 t (I.step t) p (WantC.shift t.g h)
  | exc c =>
    rw [e1] at h
    exact fun H' G' t => h σ H' G' t.g (I.step t)
  | bad => rw [e1] at h; exact h
theorem cm_appC (c : CtxD C fn W cls X) {i u : Nat} {bs : Exs} {s : Stmt} (h : mC C (.appC i u bs) s = true) : PS X s (tCd C fn fu W cls X.K G0 H0 (.appC i u bs)) := by
  unfold mC at h
  split at h
  · rename_i x p m ap y p2 x2 p3 m2 ap2 cp2 ls pos2 cp pos
    simp only [Bool.and_eq_true, decide_eq_true_eq] at h
    obtain ⟨⟨⟨⟨⟨⟨⟨⟨⟨⟨h0, hl0⟩, h1⟩, h2⟩, h3⟩, hl1⟩, h4⟩, h5⟩, h6⟩, h7⟩, h8⟩ := h
    subst h0; subst h3
    obtain ⟨n1, n2, n3⟩ := nmB_ok h7
    obtain ⟨fa, fd, ps, k, hF, hro, hm, hk, hb⟩ := (c.c.fns u _ _ _ h5).ex
    have hpl : (backTo pos2 (starEach ls X.env)).any (·.1) = false := any_back fun e he => mEs_pl h8 e he
    have pop := pe_bm0 (X := X) PySem.F.plainAttrs_list PySem.F.slot_list_pop PySem.F.type_list_pop mt_pop (rdAt_ok (p := p3) c.c h4) rfl hl1
    have args := pa_cons pop (snds_all bs c.c h8) (plE_star rfl)
    have call := pe_callS (pos := pos2) (p := p2) hF hro (glB_ok h6 c.c.hs) hm hk hb (fun σ => passAt c.c.tk σ) args n1 (plE_star rfl) hpl
    refine ps_imp (ps_expr (pe_bm PySem.F.plainAttrs_list PySem.F.slot_list_append PySem.F.type_list_append mt_append (rdAt_ok c.c h1) (pa_cons call pa_nil (plE_star rfl)) rfl (few1 rfl) hl0 (plE_star rfl))) fun D σ H q => ?_
    obtain ⟨G, ρ, I, q⟩ := q
    obtain ⟨ds, e1, q1⟩ := thenD (lstV_ne _ _) q
    have e1 := lstV_ok e1
    obtain ⟨a, xs, e2, ho, hr⟩ := own_lst I.F h2 e1
    obtain ⟨z, f1, q2⟩ := thenD (someR_ne _) q1
    obtain ⟨v, f2, r⟩ := hr.get (someR_ok f1)
    have I1 := I.upd h2 e1 e2 (.lst hr.dropLast)
    have e1' : (setV ρ i (.lst ds.dropLast))[i]? = some (some (.lst ds.dropLast)) := by
      unfold setV
      rw [List.getElem?_set_self (List.getElem?_eq_some_iff.mp e1).1]
    refine ⟨_, e2, tyV_lst ho, ⟨_, e2, tyV_lst ho, a, xs, v, rfl, rfl, ho, by rw [hr.len]; exact f2, ?_⟩⟩
    refine thenL I1 q2 fun ys vs H1 G1 ee t1 I2 r1 q3 => ?_
    refine ⟨by rw [List.length_cons, r1.len, evs_len h8 ee], G1, z :: ys, I2.F.ok, .cons (r.mono t1.g) r1, ?_⟩
    cases e3 : fn u (z :: ys) with
    | ok w =>
      rw [e3] at q3
      intro v' H' G' t2 p2
      have I3 := I2.step t2
      have q4 := WantC.shift t2.g q3
      have q4 : WantC W cls X.K C.T.isOwn C.fr G0 H0 (if ds.dropLast.length < Line then .nx (setV (setV ρ i (.lst ds.dropLast)) i (.lst (ds.dropLast ++ [w]))) else .bad) G' D := q4
      split at q4
      · rename_i hl
        have hr3 := (hr.dropLast.mono t1.g).mono t2.g
        refine ⟨a, xs.dropLast, v', rfl, rfl, t2.h _ _ (t1.h _ _ upd_same), by rw [hr3.len, sizeLn]; exact hl, ?_⟩
        exact wantC_nx (I3.upd h2 e1' e2 (.lst (hr3.append (.cons p2 .nil)))) q4
      · exact q4.elim
    | exc c' =>
      rw [e3] at q3
      exact fun H' G' t => q3 σ H' G' t.g (I2.step t)
    | bad => rw [e3] at q3; exact q3
  · cases h
theorem cm_appT (c : CtxD C fn W cls X) {i : Nat} {e : Ex} {bs : Exs} {s : Stmt} (h : mC C (.appT i e bs) s = true) : PS X s (tCd C fn fu W cls X.K G0 H0 (.appT i e bs)) := by
  unfold mC at h
  split at h
  · rename_i x p m ap l x2 p3 m2 ap2 cp2 ls n2 pos2 cp pos
    simp only [Bool.and_eq_true, decide_eq_true_eq] at h
    obtain ⟨⟨⟨⟨⟨⟨⟨⟨⟨⟨⟨h0, hl0⟩, h1⟩, h2⟩, h3⟩, hl1⟩, h4⟩, h5⟩, h6⟩, h7⟩, h8⟩, h9⟩ := h
    subst h0; subst h3
    have pop := pe_bm0 (X := X) PySem.F.plainAttrs_list PySem.F.slot_list_pop PySem.F.type_list_pop mt_pop (rdAt_ok (p := p3) c.c h4) rfl hl1
    have args := pa_cons (snd_all e c.c h6).pe (pa_cons pop (snds_all bs c.c h8) (plE_star rfl)) (plE_star h7)
    refine ps_imp (ps_expr (pe_bm PySem.F.plainAttrs_list PySem.F.slot_list_append PySem.F.type_list_append mt_append (rdAt_ok c.c h1) (pa_cons (pe_tup args) pa_nil (plE_star rfl)) rfl (few1 rfl) hl0 (plE_star rfl))) fun D σ H q => ?_
    obtain ⟨G, ρ, I, q⟩ := q
    obtain ⟨ds, e1, q1⟩ := thenD (lstV_ne _ _) q
    have e1 := lstV_ok e1
    obtain ⟨a, xs, e2, ho, hr0⟩ := own_lst I.F h2 e1
    refine ⟨_, e2, tyV_lst ho, ?_⟩
    refine thenS h5 I q1 fun x vx H1 G1 t1 I1 rx q2 => ?_
    obtain ⟨z, f1, q3⟩ := thenD (someR_ne _) q2
    have hr := hr0.mono t1.g
    have ho1 := t1.h _ _ ho
    obtain ⟨v, f2, r⟩ := hr.get (someR_ok f1)
    have I2 := I1.upd h2 e1 e2 (.lst hr.dropLast)
    have e1' : (setV ρ i (.lst ds.dropLast))[i]? = some (some (.lst ds.dropLast)) := by
      unfold setV
      rw [List.getElem?_set_self (List.getElem?_eq_some_iff.mp e1).1]
    refine ⟨_, e2, tyV_lst ho1, a, xs, v, rfl, rfl, ho1, by rw [hr.len]; exact f2, ?_⟩
    refine thenL I2 q3 fun ys vs H2 G2 ee t2 I3 r1 q4 => ?_
    have rl : RpL X.K G2 (vx :: v :: vs) (x :: z :: ys) := .cons (rx.mono t2.g) (.cons (r.mono t2.g) r1)
    refine ⟨by rw [rl.len, List.length_cons, List.length_cons, evs_len h8 ee, sizeLn]; show ls.length + 1 + 1 ≤ 16777216; omega, ?_⟩
    show ∀ p, H2 p = none → (fun v H1 => rAppend (V.ref a) [v] H1 fun _ H2 => D.nx σ H2) (V.ref p) (upd H2 p (.tup (vx :: v :: vs)))
    refine newS (Q := fun v H1 => rAppend (V.ref a) [v] H1 fun _ H2 => D.nx σ H2) I3.F.ok (fun v' H' G' t3 p3 => ?_) fun b hb => .tup (SqT.of upd_same) (rl.mono (same_upd hb))
    have I4 := I3.step t3
    have q5 := WantC.shift t3.g q4
    split at q5
    · rename_i hl
      have hr3 := (hr.dropLast.mono t2.g).mono t3.g
      refine ⟨a, xs.dropLast, v', rfl, rfl, t3.h _ _ (t2.h _ _ upd_same), by rw [hr3.len, sizeLn]; exact hl, ?_⟩
      exact wantC_nx (I4.upd h2 e1' e2 (.lst (hr3.append (.cons p3 .nil)))) q5
    · exact q5.elim
  · cases h
theorem cm_ext (c : CtxD C fn W cls X) {i : Nat} {e : Ex} {s : Stmt} (h : mC C (.ext i e) s = true) : PS X s (tCd C fn fu W cls X.K G0 H0 (.ext i e)) := by
  unfold mC at h
  split at h
  · simp only [Bool.and_eq_true, decide_eq_true_eq] at h
    obtain ⟨⟨⟨⟨⟨h0, hl0⟩, h1⟩, h2⟩, h4⟩, h5⟩ := h
    subst h0
    refine ps_imp (ps_expr (pe_bm PySem.F.plainAttrs_list PySem.F.slot_list_extend PySem.F.type_list_extend mt_extS (rdAt_ok c.c h1) (pa_cons (snd_all e c.c h4).pe pa_nil (plE_star h5)) rfl (few1 h5) hl0 (plE_star h5))) fun D σ H q => ?_
    obtain ⟨G, ρ, I, q⟩ := q
    obtain ⟨ds, e1, q1⟩ := thenD (lstV_ne _ _) q
    have e1 := lstV_ok e1
    obtain ⟨a, xs, e2, ho, hr⟩ := own_lst I.F h2 e1
    refine ⟨_, e2, tyV_lst ho, ?_⟩
    refine thenE I q1 fun z v H1 G1 t1 I1 p1 q2 => ?_
    obtain ⟨es, f1, q3⟩ := thenD (itemsL_ne z) q2
    have ez : z = .lst es := by cases z <;> first | (cases f1; rfl) | cases f1
    subst ez
    obtain ⟨b, zs, rfl, s1, r1⟩ := p1.toB.lst I1.F.sub
    split at q3
    · rename_i hl
      refine ⟨a, b, xs, zs, rfl, rfl, t1.h _ _ ho, s1, by rw [hr.len, r1.len, sizeLn]; exact hl, ?_⟩
      exact wantC_nx (I1.upd h2 e1 e2 (.lst ((hr.mono t1.g).append r1))) q3
    · exact q3.elim
  · cases h
theorem cm_pop (c : CtxD C fn W cls X) {i j : Nat} {s : Stmt} (h : mC C (.pop j i) s = true) : PS X s (tCd C fn fu W cls X.K G0 H0 (.pop j i)) := by
  unfold mC at h
  split at h
  · simp only [Bool.and_eq_true, decide_eq_true_eq] at h
    obtain ⟨⟨⟨⟨⟨h0, hl0⟩, h1⟩, h2⟩, h3⟩, h4⟩ := h
    subst h0
    obtain ⟨n1, n2, n3, n4⟩ := nmAt_ok c.c h3
    refine ps_imp (ps_set n1 n2 n3 (pe_bm0 PySem.F.plainAttrs_list PySem.F.slot_list_pop PySem.F.type_list_pop mt_pop (rdAt_ok c.c h1) rfl hl0) rfl n4) fun D σ H q => ?_
    obtain ⟨G, ρ, I, q⟩ := q
    obtain ⟨ds, e1, q1⟩ := thenD (lstV_ne _ _) q
    have e1 := lstV_ok e1
    obtain ⟨a, xs, e2, ho, hr⟩ := own_lst I.F h2 e1
    obtain ⟨z, f1, q2⟩ := thenD (someR_ne _) q1
    obtain ⟨v, f2, r⟩ := hr.get (someR_ok f1)
    refine ⟨_, e2, tyV_lst ho, a, xs, v, rfl, rfl, ho, by rw [hr.len]; exact f2, ?_⟩
    have I1 := I.upd h2 e1 e2 (.lst hr.dropLast)
    exact wantC_nx (I1.setS (isOwnF h4) r) q2
  · cases h
theorem cm_clear (c : CtxD C fn W cls X) {i : Nat} {s : Stmt} (h : mC C (.clear i) s = true) : PS X s (tCd C fn fu W cls X.K G0 H0 (.clear i)) := by
  unfold mC at h
  split at h
  · simp only [Bool.and_eq_true, decide_eq_true_eq] at h
    obtain ⟨⟨⟨h0, hl0⟩, h1⟩, h2⟩ := h
    subst h0
    refine ps_imp (ps_expr (pe_bm0 PySem.F.plainAttrs_list PySem.F.slot_list_clear PySem.F.type_list_clear mt_clear (rdAt_ok c.c h1) rfl hl0)) fun D σ H q => ?_
    obtain ⟨G, ρ, I, q⟩ := q
    obtain ⟨ds, e1, q1⟩ := thenD (lstV_ne _ _) q
    have e1 := lstV_ok e1
    obtain ⟨a, xs, e2, ho, hr⟩ := own_lst I.F h2 e1
    exact ⟨_, e2, tyV_lst ho, a, xs, rfl, rfl, ho, wantC_nx (I.upd h2 e1 e2 (.lst .nil)) q1⟩
  · cases h
theorem cm_rvs (c : CtxD C fn W cls X) {i : Nat} {s : Stmt} (h : mC C (.rvs i) s = true) : PS X s (tCd C fn fu W cls X.K G0 H0 (.rvs i)) := by
  unfold mC at h
  split at h
  · simp only [Bool.and_eq_true, decide_eq_true_eq] at h
    obtain ⟨⟨⟨h0, hl0⟩, h1⟩, h2⟩ := h
    subst h0
    refine ps_imp (ps_expr (pe_bm0 PySem.F.plainAttrs_list PySem.F.slot_list_reverse PySem.F.type_list_reverse mt_reverse (rdAt_ok c.c h1) rfl hl0)) fun D σ H q => ?_
    obtain ⟨G, ρ, I, q⟩ := q
    obtain ⟨ds, e1, q1⟩ := thenD (lstV_ne _ _) q
    have e1 := lstV_ok e1
    obtain ⟨a, xs, e2, ho, hr⟩ := own_lst I.F h2 e1
    exact ⟨_, e2, tyV_lst ho, a, xs, rfl, rfl, ho, wantC_nx (I.upd h2 e1 e2 (.lst hr.reverse)) q1⟩
  · cases h
theorem cm_expr (c : CtxD C fn W cls X) {e : Ex} {s : Stmt} (h : mC C (.expr e) s = true) : PS X s (tCd C fn fu W cls X.K G0 H0 (.expr e)) := by
  unfold mC at h
  split at h
  · simp only [Bool.and_eq_true] at h
    refine ps_imp (ps_expr (snd_all e c.c h.1).pe (notLC_sw h.2)) fun D σ H q => ?_
    obtain ⟨G, ρ, I, q⟩ := q
    exact thenE I q fun z v H1 G1 t1 I1 p1 q1 => wantC_nx I1 q1
  · cases h
theorem cm_ret (c : CtxD C fn W cls X) {e : Ex} {s : Stmt} (h : mC C (.ret e) s = true) : PS X s (tCd C fn fu W cls X.K G0 H0 (.ret e)) := by
  unfold mC at h
  split at h
  · rw [Bool.and_eq_true] at h
    obtain ⟨h1, h2⟩ := h
    refine ps_imp (ps_ret (snd_all e c.c h1).pe) fun D σ H q => ?_
    obtain ⟨G, ρ, I, q⟩ := q
    cases hfr : C.fr with
    | true =>
      rw [hfr] at h2
      refine thenE I q fun z v H1 G1 t1 I1 p1 q1 => ?_
      rw [isK_ok h2] at p1
      have q1 : WantC W cls X.K C.T.isOwn C.fr G0 H0 (.ret z) G1 D := q1
      rw [hfr] at q1
      obtain ⟨a, o, e1, n, r⟩ := p1
      exact q1 v H1 G1 (Same.refl _) I1.t ⟨a, o, e1, I.t.h.free n, r⟩
    | false =>
      rw [hfr] at h2
      refine thenS h2 I q fun z v H1 G1 t1 I1 r1 q1 => ?_
      have q1 : WantC W cls X.K C.T.isOwn C.fr G0 H0 (.ret z) G1 D := q1
      rw [hfr] at q1
      exact q1 v H1 G1 (Same.refl _) I1.t r1
  · cases h
theorem cm_retM (c : CtxD C fn W cls X) {i : Nat} {s : Stmt} (h : mC C (.retM i) s = true) : PS X s (tCd C fn fu W cls X.K G0 H0 (.retM i)) := by
  unfold mC at h
  split at h
  · rw [Bool.and_eq_true] at h
    obtain ⟨h1, h2⟩ := h
    refine ps_imp (ps_ret (rdAt_ok c.c h1)) fun D σ H q => ?_
    obtain ⟨G, ρ, I, q⟩ := q
    obtain ⟨z, e1, q1⟩ := thenD (getV_ne _ _) q
    have q1 : WantC W cls X.K C.T.isOwn C.fr G0 H0 (.ret z) G D := q1
    have e1 := getV_ok e1
    cases hfr : C.fr with
    | true =>
      rw [hfr] at q1
      obtain ⟨a, o, e2, ho, hg, r⟩ := I.F.ow i z h2 e1
      exact ⟨_, e2, q1 _ H G (Same.refl _) I.t ⟨a, o, rfl, I.fr i z a h2 e1 e2, ho, hg, r⟩⟩
    | false =>
      rw [hfr] at q1
      obtain ⟨a, o, G1, e2, ho, hG, t, sg, r, I1⟩ := I.free h2 e1
      exact ⟨_, e2, q1 _ H G1 sg t r⟩
  · cases h
theorem cm_retN (c : CtxD C fn W cls X) {s : Stmt} (h : mC C .retN s = true) : PS X s (tCd C fn fu W cls X.K G0 H0 .retN) := by
  unfold mC at h
  split at h
  · refine ps_imp ps_retN fun D σ H q => ?_
    obtain ⟨G, ρ, I, q⟩ := q
    have q1 : WantC W cls X.K C.T.isOwn C.fr G0 H0 (.ret .non) G D := q
    have hfr : C.fr = false := by cases q : C.fr <;> simp_all
    rw [hfr] at q1
    exact q1 .non H G (Same.refl _) I.t (Rp.non)
  · cases h
theorem cm_raise (c : CtxD C fn W cls X) {n : Nat} {s : Stmt} (h : mC C (.raise n) s = true) : PS X s (tCd C fn fu W cls X.K G0 H0 (.raise n)) := by
  unfold mC at h
  split at h
  · simp only [Bool.and_eq_true, decide_eq_true_eq] at h
    obtain ⟨⟨⟨h1, h2⟩, h3⟩, h4⟩ := h
    obtain ⟨n1, n2, n3⟩ := nmB_ok h3
    obtain ⟨E, hv, g, x1, k1, b1, t1⟩ := (c.ex n _ h1 h4).ex
    refine ps_imp (ps_raise c.c.calm c.c.tk (pmk_own PySem.F.excBase_ValueError x1 g k1 (raises_own b1 t1) (glB_ok h2 c.c.hs) n1)) fun D σ H q => ?_
    obtain ⟨G, ρ, I, q⟩ := q
    have q1 := (show WantC W cls X.K C.T.isOwn C.fr G0 H0 (.exc n ρ) G D from q) σ H G (Same.refl _) I
    rw [hv] at q1
    exact q1
  · cases h
end
end Den
namespace Den
open PySem PySem.Spec PyProof.Rows L2
section
variable {C : Cfg} {fn : Nat → List D → R D} {cls : Nat → Value} {X : Cx} {P : L2.St → Prop} {oi : Option Nat} {k : Nat}
def tEh (P : L2.St → Prop) (C : Cfg) (fn : Nat → List D → R D) (cls : Nat → Value) (K : PySem.W.Frag) (x : Ex) : TE := fun σ H Q => P σ ∧ tE C.T fn W0 cls K x σ H Q
def tTh (P : L2.St → Prop) (C : Cfg) (fn : Nat → List D → R D) (cls : Nat → Value) (K : PySem.W.Frag) (x : Ex) : TT := fun σ H Q => P σ ∧ tT C.T fn W0 cls K x σ H Q
def tLh (P : L2.St → Prop) (C : Cfg) (fn : Nat → List D → R D) (cls : Nat → Value) (K : PySem.W.Frag) (s : Bool) (x : Exs) : TA := fun σ H Q => P σ ∧ tL C.T fn W0 cls K s x σ H Q
/-- where a suite stands -/
structure CtxH (C : Cfg) (X : Cx) (P : L2.St → Prop) (oi : Option Nat) (k : Nat) : Prop where
  hN : X.N = C.T.N
  nd : C.T.N.Nodup
  hs : X.env.scope = C.sc
  fnc : ∀ x, X.fn x = true
  bt : ∀ x ∈ C.T.bt, X.mg x = none
  is : ∀ i y b, oi = some i → (k, y, b) ∈ C.sb → ∃ (a : Addr) (cV : V) (R : List V → Hp → VK → Prop), (∀ σ, P σ → σ[i]? = some (some (.ref a))) ∧ CallR X (.builtin "isinstance") R ∧ (∀ p, glB C.sc y = true → nmB y = true → PE X (.Name y p) (tC cV)) ∧ ∀ H Q, Q (.bl b) H → R [.ref a, cV] H Q
  st : ∀ j v σ, some j ≠ oi → P σ → P (σ.set j v)
  un : X.A.units + 64 < cLine
structure SndH (P : L2.St → Prop) (C : Cfg) (fn : Nat → List D → R D) (cls : Nat → Value) (X : Cx) (x : Ex) (e : Expr) : Prop where
  pe : PE X e (tEh P C fn cls X.K x)
  pt : ntI e = true → PT X e (tTh P C fn cls X.K x)
  pw : isBO e = true → PW X e (tTh P C fn cls X.K x)
theorem SndH.of {x : Ex} {e : Expr} (pe : PE X e (tEh P C fn cls X.K x)) (he : ∀ whole, isTrue e X.env whole = (do let v ← whole; standAt e.pos; holding [v] (truthy v))) (hb : isBO e = false) : SndH P C fn cls X x e :=
  ⟨pe, fun _ => pt_imp (pt_val pe he) fun _ _ _ h => ⟨h.1, tT_tB h.2⟩, fun h => by rw [hb] at h; cases h⟩
theorem CtxH.blt (c : CtxH C X P oi k) {x : Str} (h : blt C.T C.sc x = true) : Gl X x ∧ X.mg x = none ∧ x ≠ "__name__" ∧ (x == ("__debug__" : Str)) = false := by
  unfold Den.blt at h
  rw [Bool.and_eq_true, Bool.and_eq_true, decide_eq_true_eq] at h
  obtain ⟨n1, n2, n3⟩ := nmB_ok h.1.2
  exact ⟨glB_ok h.1.1 c.hs, c.bt _ h.2, n3, n1⟩
theorem hsnd_var (c : CtxH C X P oi k) {i : Nat} {y : Str} {p : Pos} (h1 : C.T.N[i]? = some y) (h2 : visB C.sc y = true) (h3 : nmB y = true) : SndH P C fn cls X (.var i) (.Name y p) := by
  obtain ⟨n1, n2, n3⟩ := nmB_ok h3
  refine .of (pe_imp (pe_var (i := i) (by rw [c.hN]; exact h1) (by rw [c.hs]; exact visB_ok h2) n1 n2) fun σ H Q h => ?_) (fun _ => rfl) rfl
  obtain ⟨G, ρ, F, h⟩ := h.2
  unfold ev getV at h
  cases e : ρ[i]? with
  | none => rw [e] at h; exact h.elim
  | some o =>
    cases o with
    | none => rw [e] at h; exact h.elim
    | some z =>
      rw [e] at h
      obtain ⟨v, e1, p⟩ := F.var e
      refine ⟨v, e1, want_ok F.ok h ?_⟩
      cases ho : C.T.isOwn i with
      | true =>
        have ek : kd C.T (.var i) = .B := by show (if C.T.isOwn i = true then Kd.B else Kd.S) = _; rw [ho]; rfl
        rw [ek]
        exact p
      | false =>
        have ek : kd C.T (.var i) = .S := by show (if C.T.isOwn i = true then Kd.B else Kd.S) = _; rw [ho]; rfl
        rw [ek]
        obtain ⟨v', e2, r⟩ := F.sh i z ho e
        rw [e1] at e2
        cases e2
        exact r
theorem hsnd_cst {z : D} {e : Expr} {v : V} (hp : PE X e (tC v)) (hr : ∀ G, Rp X.K G v z) (he : ∀ whole, isTrue e X.env whole = (do let v ← whole; standAt e.pos; holding [v] (truthy v))) (hb : isBO e = false) : SndH P C fn cls X (.cst z) e := by
  refine .of (pe_imp hp fun σ H Q h => ?_) he hb
  obtain ⟨G, ρ, F, h⟩ := h.2
  exact want_ok F.ok h (hr G)
theorem hsnd_is (c : CtxH C X P oi k) {b : Bool} {e : Expr} (h : isEB C oi k b e = true) : SndH P C fn cls X (.cst (.bl b)) e := by
  unfold isEB at h
  split at h
  · rename_i x p n p3 y p4 p2
    cases oi with
    | none => cases h
    | some i =>
      simp only [Bool.and_eq_true, decide_eq_true_eq] at h
      obtain ⟨⟨⟨⟨⟨⟨⟨rfl, h2⟩, h3⟩, h4⟩, h5⟩, h6⟩, h7⟩, h8⟩ := h
      obtain ⟨g1, g2, g3, g4⟩ := c.blt h2
      obtain ⟨n1, n2, n3⟩ := nmB_ok h5
      obtain ⟨a, cV, R, hp, hR, hy, hq⟩ := c.is i y b rfl h8
      refine .of (pe_imp (pe_callB hR g1 g2 (by decide +kernel) (pa_cons (pe_var (i := i) (by rw [c.hN]; exact h3) (by rw [c.hs]; exact visB_ok h4) n1 n2) (pa_cons (hy _ h6 h7) pa_nil)) g3 g4) fun σ H Q q => ?_) (fun _ => rfl) rfl
      obtain ⟨hP, G, ρ, F, q⟩ := q
      exact ⟨_, hp σ hP, hq H Q (want_ok F.ok q (Rp.bl b))⟩
  · cases h
theorem hsnd_bin (c : CtxH C X P oi k) {o : Bop} {a b : Ex} {l r : Expr} {p : Pos} (ha : SndH P C fn cls X a l) (hb : SndH P C fn cls X b r) : SndH P C fn cls X (.bin o a b) (.BinOp l o.py r p) := by
  obtain ⟨R, hR, hq⟩ := opD_bin (X := X) o
  refine .of (pe_imp (pe_op hR ha.pe hb.pe) fun σ H Q h => ?_) (fun _ => rfl) rfl
  obtain ⟨hP, G, ρ, F, h⟩ := h
  have h : Want W0 cls X.K .S ((ev fn a ρ).bind fun x => (ev fn b ρ).bind fun y => binD o x y) G H σ Q := h
  refine ⟨hP, seqE F h fun z1 v1 H1 G1 _ t1 F1 p1 h1 => ⟨hP, seqE F1 h1 fun z2 v2 H2 G2 _ t2 F2 p2 h2 => ?_⟩⟩
  obtain ⟨z, hz, q⟩ := want_pure (binD_ne o z1 z2) h2
  exact hq G2 H2 v1 v2 z1 z2 z Q F2.ok (p1.toB.step t2) p2.toB hz q
theorem hsnd_ix (c : CtxH C X P oi k) {a b : Ex} {l r : Expr} {p : Pos} (ha : SndH P C fn cls X a l) (hb : SndH P C fn cls X b r) (hp : plE r = true) : SndH P C fn cls X (.ix a b) (.Subscript l r p) := by
  obtain ⟨R, hR, hq⟩ := ixD_ok (X := X) c.un
  refine .of (pe_imp (pe_ix hR ha.pe hb.pe (plE_ix hp)) fun σ H Q h => ?_) (fun _ => rfl) rfl
  obtain ⟨hP, G, ρ, F, h⟩ := h
  have h : Want W0 cls X.K .S ((ev fn a ρ).bind fun x => (ev fn b ρ).bind fun y => ixD x y) G H σ Q := h
  refine ⟨hP, seqE F h fun z1 v1 H1 G1 _ t1 F1 p1 h1 => ⟨hP, seqE F1 h1 fun z2 v2 H2 G2 _ t2 F2 p2 h2 => ?_⟩⟩
  obtain ⟨z, hz, q⟩ := want_pure (ixD_ne z1 z2) h2
  exact hq G2 H2 v1 v2 z1 z2 z Q F2.ok (p1.toB.step t2) p2.toB hz q
theorem hsnd_not (c : CtxH C X P oi k) {a : Ex} {l : Expr} {p : Pos} (ha : SndH P C fn cls X a l) (nl : ntI l = true) : SndH P C fn cls X (.not_ a) (.UnaryOp .Not l p) := by
  refine ⟨pe_imp (pe_not ha.pe) fun σ H Q h => ?_, fun _ => pt_imp (pt_not (ha.pt nl)) fun σ H Q h => ?_, fun h => nomatch h⟩
  · obtain ⟨hP, G, ρ, F, h⟩ := h
    refine ⟨hP, seqE F h fun z1 v1 H1 G1 _ t1 F1 p1 h1 => ?_⟩
    obtain ⟨k, rfl, h1⟩ := want_bool h1
    exact ⟨k, p1.bl, want_ok (v := .bl _) F1.ok h1 (Rp.bl _)⟩
  · obtain ⟨hP, G, ρ, F, h⟩ := h
    exact ⟨hP, seqTT F h fun k H1 G1 t1 F1 h1 => h1 H1 G1 (Stp.refl F1.ok)⟩
theorem hsnd_and (c : CtxH C X P oi k) {a b : Ex} {x y : Expr} {r : List Expr} {p : Pos} (ha : SndH P C fn cls X a x) (nx : ntI x = true)
    (hb : (∃ e, SndH P C fn cls X b e ∧ r = [] ∧ e = y ∧ ntI y = true) ∨ (∃ e, SndH P C fn cls X b e ∧ e = .BoolOp .And (y :: r) p)) : SndH P C fn cls X (.and_ a b) (.BoolOp .And (x :: y :: r) p) := by
  have hpe : PE X (.BoolOp .And (y :: r) p) (tEh P C fn cls X.K b) := by
    rcases hb with ⟨e, h, rfl, rfl, _⟩ | ⟨e, h, rfl⟩
    · exact pe_one h.pe
    · exact h.pe
  have hpw : PW X (.BoolOp .And (y :: r) p) (tTh P C fn cls X.K b) := by
    rcases hb with ⟨e, h, rfl, rfl, n⟩ | ⟨e, h, rfl⟩
    · exact pw_and1 (h.pt n)
    · exact h.pw rfl
  have w : PW X (.BoolOp .And (x :: y :: r) p) (tTh P C fn cls X.K (.and_ a b)) := by
    refine pw_imp (pw_and (ha.pt nx) hpw) fun σ H Q h => ?_
    obtain ⟨hP, G, ρ, F, h⟩ := h
    refine ⟨hP, seqTT F h fun k H1 G1 t1 F1 h1 => ?_⟩
    cases k with
    | true =>
      rw [if_pos rfl]
      exact ⟨hP, seqTT F1 h1 fun k2 H2 G2 t2 F2 h2 => h2 H2 G2 (Stp.refl F2.ok)⟩
    | false =>
      rw [if_neg Bool.false_ne_true]
      exact h1 H1 G1 (Stp.refl F1.ok)
  refine ⟨pe_imp (pe_and ha.pe hpe) fun σ H Q h => ?_, fun _ => w.pt, fun _ => w⟩
  obtain ⟨hP, G, ρ, F, h⟩ := h
  refine ⟨hP, seqE F h fun z1 v1 H1 G1 _ t1 F1 p1 h1 => ?_⟩
  obtain ⟨k, rfl, h1⟩ := want_bool h1
  refine ⟨k, p1.bl, ?_⟩
  cases k with
  | true =>
    rw [if_pos rfl]
    refine ⟨hP, seqE F1 h1 fun z2 v2 H2 G2 _ t2 F2 p2 h2 => ?_⟩
    obtain ⟨k2, rfl, h2⟩ := want_bool h2
    rw [p2.bl]
    exact want_ok (v := .bl _) F2.ok h2 (Rp.bl _)
  | false =>
    rw [if_neg Bool.false_ne_true]
    exact want_ok (v := .bl _) F1.ok h1 (Rp.bl _)
theorem hpa_none (s : Bool) : PA X [] (tLh P C fn cls X.K s .nil) := pa_imp (pa_none (T := C.T) (fn := fn) (W := W0) (cls := cls) s) fun σ H Q h => h.2
theorem hpa_some {s : Bool} {a : Ex} {r : Exs} {e : Expr} {es : List Expr} (ha : SndH P C fn cls X a e) (hp : plE e = true) (hn : s = true → nB C.T a = true) (hr : PA X es (tLh P C fn cls X.K s r)) : PA X (e :: es) (tLh P C fn cls X.K s (.cons a r)) := by
  refine pa_imp (pa_cons ha.pe hr (plE_star hp)) fun σ H Q h => ?_
  obtain ⟨hP, G, ρ, F, h⟩ := h
  have h' : WantL W0 cls X.K s ((ev fn a ρ).bind fun x => (evs fn r ρ).bind fun xs => .ok (x :: xs)) G H σ Q := h
  refine ⟨hP, G, ρ, F, ?_⟩
  cases e1 : ev fn a ρ with
  | exc c' => rw [e1] at h'; exact h'
  | bad => rw [e1] at h'; exact h'
  | ok z =>
    rw [e1] at h'
    intro v H1 G1 t1 p1
    have go : ∀ G1', Stp G H G1' H1 → (if s then Rp X.K G1' v z else PB X.K G1' H1 v z) → tLh P C fn cls X.K s r σ H1 fun xs H2 => Q (v :: xs) H2 := fun G1' t1 p1 => by
      have F1 := F.step t1
      have h2 := WantL.shift t1 h'
      refine ⟨hP, G1', ρ, F1, ?_⟩
      cases e2 : evs fn r ρ with
      | exc c' => rw [e2] at h2; exact h2
      | bad => rw [e2] at h2; exact h2
      | ok zs =>
        rw [e2] at h2
        intro vs H2 G2 t2 p2
        refine h2 (v :: vs) H2 G2 t2 ?_
        cases s
        · exact .cons (PB.step t2 p1) p2
        · exact .cons (Rp.mono t2.g p1) p2
    cases s with
    | false => exact go G1 t1 p1.toB
    | true =>
      obtain ⟨G3, t3, r3⟩ := p1.toS (nB_ne (hn rfl)) t1
      exact go G3 t3 r3
theorem hsnd_tup (c : CtxH C X P oi k) {es : Exs} {l : List Expr} {n : Nat} {p : Pos} (ha : PA X l (tLh P C fn cls X.K true es)) (hl : l.length ≤ Line) (hlen : ∀ ρ zs, evs fn es ρ = .ok zs → zs.length = l.length) : SndH P C fn cls X (.tup es) (.Tuple l n p) := by
  refine .of (pe_imp (pe_tup ha) fun σ H Q h => ?_) (fun _ => rfl) rfl
  obtain ⟨hP, G, ρ, F, h⟩ := h
  refine ⟨hP, seqL F h fun zs vs H1 G1 e t1 F1 p1 h1 => ?_⟩
  have p1 : RpL X.K G1 vs zs := p1
  have hz := hlen ρ zs e
  refine ⟨by rw [p1.len, hz, sizeLn]; exact hl, ?_⟩
  exact newS F1.ok (fun v H' G' t r => h1 v H' G' t r) fun a ha => .tup (SqT.of upd_same) (p1.mono (same_upd ha))
theorem hsnd_lst (c : CtxH C X P oi k) {es : Exs} {l : List Expr} {p : Pos} (ha : PA X l (tLh P C fn cls X.K true es)) (hl : l.length ≤ Line) (hlen : ∀ ρ zs, evs fn es ρ = .ok zs → zs.length = l.length) : SndH P C fn cls X (.lst es) (.List l p) := by
  refine .of (pe_imp (pe_lst ha) fun σ H Q h => ?_) (fun _ => rfl) rfl
  obtain ⟨hP, G, ρ, F, h⟩ := h
  refine ⟨hP, seqL F h fun zs vs H1 G1 e t1 F1 p1 h1 => ?_⟩
  have p1 : RpL X.K G1 vs zs := p1
  have hz := hlen ρ zs e
  refine ⟨by rw [p1.len, hz, sizeLn]; exact hl, ?_⟩
  exact newT F1.ok (o := .lst _) trivial (fun v H' G' t r => h1 v H' G' t r) (.lst p1)
theorem evsh_len : ∀ {es : Exs} {l : List Expr} {s : Bool} {ρ : Env} {zs : List D}, mHl C oi k s es l = true → evs fn es ρ = .ok zs → zs.length = l.length
  | .nil, l, s, ρ, zs, h, e => by
    cases l with
    | nil => cases e; rfl
    | cons _ _ => cases h
  | .cons a r, l, s, ρ, zs, h, e => by
    cases l with
    | nil => cases h
    | cons x es =>
      unfold mHl at h
      rw [Bool.and_eq_true] at h
      unfold evs at e
      obtain ⟨z, e1, e2⟩ := bind_okE e
      obtain ⟨ws, e3, e4⟩ := bind_okE e2
      cases e4
      rw [List.length_cons, List.length_cons, evsh_len h.2 e3]
theorem hsnd_int (c : CtxH C X P oi k) {es : Exs} {l : Expr} {p p2 : Pos} (hb : blt C.T C.sc "int" = true) (ha : PA X [l] (tLh P C fn cls X.K false es)) (hp : plE l = true) : SndH P C fn cls X (.bi .int_ es) (.Call (.Name "int" p) [l] [] p2) := by
  obtain ⟨g1, g2, g3, g4⟩ := c.blt hb
  have rule : CallR X (.type "int") (fun xs H Q => ((∃ i, xs = [.int i] ∧ Q (.int i) H) ∨ ∃ k, xs = [.bl k] ∧ Q (.int (if k then 1 else 0)) H) ∨ ∃ a n, xs = [.str a] ∧ PySem.intText? a = some n ∧ a.length ≤ 640 ∧ Q (.int n) H) := fun pins s σ H xs us Q I rs h => by
    rcases h with h | h
    · exact call_int1 pins s σ H xs us Q I rs h
    · exact call_int_str pins s σ H xs us Q I rs h
  refine .of (pe_imp (pe_callTy rule g1 g2 (by decide +kernel) ha g3 g4 (plE_star hp) rfl) fun σ H Q h => ?_) (fun _ => rfl) rfl
  obtain ⟨hP, G, ρ, F, h⟩ := h
  have h : Want W0 cls X.K .S ((evs fn es ρ).bind fun ds => biD .int_ ds) G H σ Q := h
  refine ⟨hP, seqL F h fun zs vs H1 G1 e t1 F1 p1 h1 => ?_⟩
  have p1 : PBL X.K G1 H1 vs zs := p1
  obtain ⟨z, hz, q⟩ := want_pure (biD_ne .int_ zs) h1
  match zs, hz with
  | [.int i], hz =>
    cases hz
    obtain ⟨v, rfl, pv⟩ := p1.one
    rw [pv.int]
    exact .inl (.inl ⟨i, rfl, q _ _ _ (Stp.refl F1.ok) (Rp.int _)⟩)
  | [.bl i], hz =>
    cases hz
    obtain ⟨v, rfl, pv⟩ := p1.one
    rw [pv.bl]
    exact .inl (.inr ⟨i, rfl, q _ _ _ (Stp.refl F1.ok) (Rp.int _)⟩)
  | [.str s], hz =>
    obtain ⟨v, rfl, pv⟩ := p1.one
    rw [pv.str]
    cases e : PySem.intText? s with
    | none => simp only [biD, e] at hz; cases hz
    | some n =>
      simp only [biD, e] at hz
      obtain ⟨g1, g2⟩ := guard_ok hz
      cases g2
      exact .inr ⟨s, n, rfl, e, of_decide_eq_true g1, q _ _ _ (Stp.refl F1.ok) (Rp.int _)⟩
mutual
theorem hsnd_all : ∀ (x : Ex) (c : CtxH C X P oi k) {e : Expr}, mH C oi k x e = true → SndH P C fn cls X x e
  | .cst z, c, e, h => by
    have h : (mE C.T (.cst z) C.sc e || isEZ C oi k z e) = true := by unfold mH at h; exact h
    rw [Bool.or_eq_true] at h
    rcases h with h | h
    · cases e with
      | Constant y j p =>
        cases z with
        | non =>
          cases y with
          | none => exact hsnd_cst pe_non (fun _ => .non) (fun _ => rfl) rfl
          | _ => cases h
        | bl b =>
          cases y with
          | bool k =>
            have e : b = k := of_decide_eq_true h
            subst e
            exact hsnd_cst pe_bl (fun _ => .bl b) (fun _ => rfl) rfl
          | _ => cases h
        | int i =>
          cases y with
          | int k =>
            have e : i = k := of_decide_eq_true h
            subst e
            exact hsnd_cst pe_int (fun _ => .int i) (fun _ => rfl) rfl
          | _ => cases h
        | str s =>
          cases y with
          | str k =>
            have e : s = k := of_decide_eq_true h
            subst e
            exact hsnd_cst pe_str (fun _ => .str s) (fun _ => rfl) rfl
          | _ => cases h
        | _ => cases y <;> cases h
      | _ => cases h
    · cases z with
      | bl b => exact hsnd_is c h
      | _ => cases h
  | .var i, c, e, h => by
    have h : mE C.T (.var i) C.sc e = true := by unfold mH at h; exact h
    cases e with
    | Name x p =>
      simp only [mE, Bool.and_eq_true, decide_eq_true_eq] at h
      exact hsnd_var c h.1.1 h.1.2 h.2
    | _ => cases h
  | .and_ a b, c, e, h => by
    unfold mH at h
    split at h
    · rename_i x y r pos
      simp only [Bool.and_eq_true] at h
      obtain ⟨⟨⟨h1, h2⟩, h3⟩, h4⟩ := h
      refine hsnd_and c (hsnd_all a c h1) h3 ?_
      cases r with
      | nil => exact .inl ⟨y, hsnd_all b c h2, rfl, rfl, h4⟩
      | cons z r' => exact .inr ⟨_, hsnd_all b c h2, rfl⟩
    · cases h
  | .not_ a, c, e, h => by
    unfold mH at h
    split at h
    · simp only [Bool.and_eq_true, decide_eq_true_eq] at h
      obtain ⟨⟨rfl, h2⟩, h3⟩ := h
      exact hsnd_not c (hsnd_all a c h2) h3
    · cases h
  | .bin o a b, c, e, h => by
    unfold mH at h
    split at h
    · simp only [Bool.and_eq_true, decide_eq_true_eq] at h
      obtain ⟨⟨rfl, h2⟩, h3⟩ := h
      exact hsnd_bin c (hsnd_all a c h2) (hsnd_all b c h3)
    · cases h
  | .bi b es, c, e, h => by
    unfold mH at h
    split at h
    · simp only [Bool.and_eq_true, decide_eq_true_eq] at h
      obtain ⟨⟨⟨h1, rfl⟩, h3⟩, h4⟩ := h
      cases b with
      | int_ =>
        have hp : plE _ = true := mHl_pl h4 _ (List.mem_singleton.mpr rfl)
        exact hsnd_int c h3 (hsnds_all es c h4) hp
      | _ => cases h1
    · cases h
  | .lst es, c, e, h => by
    unfold mH at h
    split at h
    · simp only [Bool.and_eq_true, decide_eq_true_eq] at h
      exact hsnd_lst c (hsnds_all es c h.1) h.2 fun ρ zs e => evsh_len h.1 e
    · cases h
  | .tup es, c, e, h => by
    unfold mH at h
    split at h
    · simp only [Bool.and_eq_true, decide_eq_true_eq] at h
      exact hsnd_tup c (hsnds_all es c h.1) h.2 fun ρ zs e => evsh_len h.1 e
    · cases h
  | .ix a b, c, e, h => by
    unfold mH at h
    split at h
    · simp only [Bool.and_eq_true] at h
      exact hsnd_ix c (hsnd_all a c h.1.1) (hsnd_all b c h.1.2) h.2
    · cases h
  | .gint _ _, c, e, h => by unfold mH at h; cases h
  | .neg _, c, e, h => by unfold mH at h; cases h
  | .cmp _ _ _, c, e, h => by unfold mH at h; cases h
  | .isN _, c, e, h => by unfold mH at h; cases h
  | .notN _, c, e, h => by unfold mH at h; cases h
  | .chain _ _ _ _ _, c, e, h => by unfold mH at h; cases h
  | .or_ _ _, c, e, h => by unfold mH at h; cases h
  | .ite _ _ _, c, e, h => by unfold mH at h; cases h
  | .slF _ _, c, e, h => by unfold mH at h; cases h
  | .slT _ _, c, e, h => by unfold mH at h; cases h
  | .slB _ _ _, c, e, h => by unfold mH at h; cases h
  | .call _ _, c, e, h => by unfold mH at h; cases h
  | .callB _ _, c, e, h => by unfold mH at h; cases h
  | .isi _ _, c, e, h => by unfold mH at h; cases h
  | .comp _ _ _ _, c, e, h => by unfold mH at h; cases h
  | .compIf _ _ _ _ _, c, e, h => by unfold mH at h; cases h
  | .sset _, c, e, h => by unfold mH at h; cases h
  | .lset _, c, e, h => by unfold mH at h; cases h
  | .fld _ _, c, e, h => by unfold mH at h; cases h
  | .meth _ _ _ _, c, e, h => by unfold mH at h; cases h
  | .make _ _, c, e, h => by unfold mH at h; cases h
  | .isc _ _, c, e, h => by unfold mH at h; cases h
  | .dcp _, c, e, h => by unfold mH at h; cases h
  | .slO _ _, c, e, h => by unfold mH at h; cases h
  | .dlitO _ _, c, e, h => by unfold mH at h; cases h
  | .pickL _ _, c, e, h => by unfold mH at h; cases h
  | .makeB _ _, c, e, h => by unfold mH at h; cases h
  | .deq _ _, c, e, h => by unfold mH at h; cases h
  | .lzip _, c, e, h => by unfold mH at h; cases h
  | .lrng _ _, c, e, h => by unfold mH at h; cases h
  | .lrev _, c, e, h => by unfold mH at h; cases h
theorem hsnds_all : ∀ (es : Exs) {s : Bool} (c : CtxH C X P oi k) {l : List Expr}, mHl C oi k s es l = true → PA X l (tLh P C fn cls X.K s es)
  | .nil, s, c, l, h => by
    cases l with
    | nil => exact hpa_none s
    | cons _ _ => cases h
  | .cons a r, s, c, l, h => by
    cases l with
    | nil => cases h
    | cons e es =>
      unfold mHl at h
      simp only [Bool.and_eq_true] at h
      obtain ⟨⟨⟨h1, h2⟩, h3⟩, h4⟩ := h
      exact hpa_some (hsnd_all a c h1) h2 (fun q => by subst q; simpa using h3) (hsnds_all r c h4)
theorem mHl_pl : ∀ {es : Exs} {l : List Expr} {s : Bool}, mHl C oi k s es l = true → ∀ e ∈ l, plE e = true
  | .nil, l, s, h => by
    cases l with
    | nil => simp
    | cons _ _ => cases h
  | .cons a r, l, s, h => by
    cases l with
    | nil => cases h
    | cons x es =>
      unfold mHl at h
      rw [Bool.and_eq_true, Bool.and_eq_true, Bool.and_eq_true] at h
      intro e he
      rcases List.mem_cons.mp he with q | q
      · rw [q]; exact h.1.1.2
      · exact mHl_pl h.2 e q
end
end
end Den
namespace Den
open PySem PySem.Spec PyProof.Rows L2
section
variable {C : Cfg} {fn : Nat → List D → R D} {fu : Nat} {W : WX} {cls : Nat → Value} {X : Cx} {G0 H0 : Hp} {P : L2.St → Prop} {oi : Option Nat} {k : Nat}
/-- the ends of a suite's statement -/
def pD (P : L2.St → Prop) (D : Ends) : Ends := { D with nx := fun σ' H' => P σ' → D.nx σ' H' }
def tCh (P : L2.St → Prop) (C : Cfg) (fn : Nat → List D → R D) (cls : Nat → Value) (K : PySem.W.Frag) (G0 H0 : Hp) (f : Env → O) : TS := fun D σ H => P σ ∧ ∃ G ρ, SI K C.T.isOwn G0 H0 G ρ σ H ∧ WantC W0 cls K C.T.isOwn C.fr G0 H0 (f ρ) G (pD P D)
theorem hnm (c : CtxH C X P oi k) {i : Nat} {x : Str} (h : nmAt C.T C.sc i x = true) : X.N.Nodup ∧ X.N[i]? = some x ∧ L2.Loc X.env.scope x ∧ (X.fn x = true ∨ X.env.scope.names.lookup x = some .local) := by
  unfold nmAt at h
  rw [Bool.and_eq_true, decide_eq_true_eq] at h
  obtain ⟨l1, _⟩ := locB_ok h.2
  exact ⟨by rw [c.hN]; exact c.nd, by rw [c.hN]; exact h.1, by rw [c.hs]; exact l1, .inl (c.fnc x)⟩
theorem hrd (c : CtxH C X P oi k) {i : Nat} {x : Str} {p : Pos} (h : rdAt C.T C.sc i x = true) : PE X (.Name x p) (tVar i) := by
  unfold rdAt at h
  rw [Bool.and_eq_true, Bool.and_eq_true, decide_eq_true_eq] at h
  obtain ⟨n1, n2, n3⟩ := nmB_ok h.2
  exact pe_var (by rw [c.hN]; exact h.1.1) (by rw [c.hs]; exact visB_ok h.1.2) n1 n2
theorem hc_all (c : CtxH C X P oi k) {x : Cmd} {s : Stmt} (h : mHc C oi k x s = true) : PS X s (tCh P C fn cls X.K G0 H0 (evC fn fu x)) := by
  cases x with
  | set j e =>
    dsimp only [mHc] at h
    split at h
    · simp only [Bool.and_eq_true, decide_eq_true_eq] at h
      obtain ⟨⟨⟨⟨⟨h1, h2⟩, h3⟩, h4⟩, h5⟩, h6⟩ := h
      obtain ⟨n1, n2, n3, n4⟩ := hnm c h1
      refine ps_imp (ps_set n1 n2 n3 (hsnd_all (fn := fn) (cls := cls) e c h5).pe (notLC_sw h6) n4) fun D σ H q => ?_
      obtain ⟨hP, G, ρ, I, q⟩ := q
      exact ⟨hP, thenS h4 I q fun z v H1 G1 t1 I1 r1 q1 => (show pD P D |>.nx _ _ from wantC_nx (I1.setS (isOwnF h2) r1) q1) (c.st j _ σ h3 hP)⟩
    · cases h
  | own j e =>
    dsimp only [mHc] at h
    split at h
    · simp only [Bool.and_eq_true, decide_eq_true_eq] at h
      obtain ⟨⟨⟨⟨⟨h1, h2⟩, h3⟩, h4⟩, h5⟩, h6⟩ := h
      obtain ⟨n1, n2, n3, n4⟩ := hnm c h1
      refine ps_imp (ps_set n1 n2 n3 (hsnd_all (fn := fn) (cls := cls) e c h5).pe (notLC_sw h6) n4) fun D σ H q => ?_
      obtain ⟨hP, G, ρ, I, q⟩ := q
      refine ⟨hP, thenE I q fun z v H1 G1 t1 I1 p1 q1 => ?_⟩
      rw [isK_ok h4] at p1
      obtain ⟨a, o, rfl, n, ho, hg, r⟩ := p1
      exact (show pD P D |>.nx _ _ from wantC_nx (I.setO h2 t1 n ho hg r) q1) (c.st j _ σ h3 hP)
    · cases h
  | app j e =>
    dsimp only [mHc] at h
    split at h
    · simp only [Bool.and_eq_true, decide_eq_true_eq] at h
      obtain ⟨⟨⟨⟨⟨⟨h0, hl0⟩, h1⟩, h2⟩, h3⟩, h4⟩, h5⟩ := h
      subst h0
      refine ps_imp (ps_expr (pe_bm PySem.F.plainAttrs_list PySem.F.slot_list_append PySem.F.type_list_append mt_append (hrd c h1) (pa_cons (hsnd_all (fn := fn) (cls := cls) e c h4).pe pa_nil (plE_star h5)) rfl (few1 h5) hl0 (plE_star h5))) fun D σ H q => ?_
      obtain ⟨hP, G, ρ, I, q⟩ := q
      obtain ⟨ds, e1, q1⟩ := thenD (lstV_ne _ _) q
      have e1 := lstV_ok e1
      obtain ⟨a, xs, e2, ho, hr⟩ := own_lst I.F h2 e1
      refine ⟨_, e2, tyV_lst ho, hP, ?_⟩
      refine thenS h3 I q1 fun z v H1 G1 t1 I1 r1 q2 => ?_
      split at q2
      · rename_i hl
        refine ⟨a, xs, v, rfl, rfl, t1.h _ _ ho, by rw [hr.len, sizeLn]; exact hl, ?_⟩
        exact (show pD P D |>.nx _ _ from wantC_nx (I1.upd h2 e1 e2 (.lst ((hr.mono t1.g).append (.cons r1 .nil)))) q2) hP
      · exact q2.elim
    · cases h
  | ret e =>
    dsimp only [mHc] at h
    split at h
    · rw [Bool.and_eq_true] at h
      obtain ⟨h1, h2⟩ := h
      refine ps_imp (ps_ret (hsnd_all (fn := fn) (cls := cls) e c h1).pe) fun D σ H q => ?_
      obtain ⟨hP, G, ρ, I, q⟩ := q
      cases hfr : C.fr with
      | true =>
        rw [hfr] at h2
        refine ⟨hP, thenE I q fun z v H1 G1 t1 I1 p1 q1 => ?_⟩
        rw [isK_ok h2] at p1
        have q1 : WantC W0 cls X.K C.T.isOwn C.fr G0 H0 (.ret z) G1 (pD P D) := q1
        rw [hfr] at q1
        obtain ⟨a, o, e1, n, r⟩ := p1
        exact q1 v H1 G1 (Same.refl _) I1.t ⟨a, o, e1, I.t.h.free n, r⟩
      | false =>
        rw [hfr] at h2
        refine ⟨hP, thenS h2 I q fun z v H1 G1 t1 I1 r1 q1 => ?_⟩
        have q1 : WantC W0 cls X.K C.T.isOwn C.fr G0 H0 (.ret z) G1 (pD P D) := q1
        rw [hfr] at q1
        exact q1 v H1 G1 (Same.refl _) I1.t r1
    · cases h
  | _ => cases h
theorem hs_all (c : CtxH C X P oi k) : ∀ (x : Cmds) {l : List Stmt}, mHs C oi k x l = true → PSs X l (tCh P C fn cls X.K G0 H0 (evCs fn fu x))
  | .nil, l, h => by
    cases l with
    | cons _ _ => cases h
    | nil =>
      refine pss_imp pss_nil fun D σ H q => ?_
      obtain ⟨hP, G, ρ, I, q⟩ := q
      exact (show pD P D |>.nx _ _ from wantC_nx I q) hP
  | .cons x r, l, h => by
    cases l with
    | nil => cases h
    | cons s ss =>
      unfold mHs at h
      simp only [Bool.and_eq_true] at h
      refine pss_imp (pss_cons (hc_all (fn := fn) (fu := fu) (cls := cls) (G0 := G0) (H0 := H0) c h.1) (hs_all c r h.2)) fun D σ H q => ?_
      obtain ⟨hP, G, ρ, I, q⟩ := q
      refine ⟨hP, G, ρ, I, ?_⟩
      have q : WantC W0 cls X.K C.T.isOwn C.fr G0 H0 (seqO (evC fn fu x ρ) fun ρ' => evCs fn fu r ρ') G (pD P D) := q
      cases e : evC fn fu x ρ with
      | nx ρ4 => rw [e] at q; exact fun σ' H' G'' s' I' hP' => ⟨hP', G'', ρ4, I', WantC.shift s' q⟩
      | cont ρ4 => rw [e] at q; exact q
      | brk ρ4 => rw [e] at q; exact q
      | ret z => rw [e] at q; exact q
      | exc c' ρ4 => rw [e] at q; exact q
      | bad => rw [e] at q; exact q
  | .shr i r, l, h => by cases h
theorem hd_find {x : Str} {l : List Stmt} : ∀ {hs : Hds}, mHd C oi x hs l = true → (∀ ρ, evHs fn fu hs k ρ = .bad) ∨ ∃ h, (k, x) ∈ C.ct ∧ mHs C oi k h l = true ∧ ∀ ρ, evHs fn fu hs k ρ = noxO (evCs fn fu h ρ)
  | .nil, _ => .inl fun _ => rfl
  | .cons j h r, hm => by
    unfold mHd at hm
    simp only [Bool.and_eq_true, decide_eq_true_eq] at hm
    by_cases e : k = j
    · subst e
      exact .inr ⟨h, hm.1.1, hm.1.2, fun ρ => by unfold evHs; rw [if_pos rfl]⟩
    · have step : ∀ ρ, evHs fn fu (.cons j h r) k ρ = evHs fn fu r k ρ := fun ρ => by conv => lhs; unfold evHs; rw [if_neg e]
      rcases hd_find (hs := r) hm.2 with q | ⟨h', q1, q2, q3⟩
      · exact .inl fun ρ => by rw [step, q]
      · exact .inr ⟨h', q1, q2, fun ρ => by rw [step, q3]⟩
theorem SI.unset {K : PySem.W.Frag} {own : Nat → Bool} {G H : Hp} {ρ : Env} {σ : L2.St} (I : SI K own G0 H0 G ρ σ H) (i : Nat) (o : Option V) : SI K own G0 H0 G (ρ.set i none) (σ.set i o) H :=
  ⟨I.F.unset o, I.t, fun j z a hj h1 h2 => by
    rcases set_get h1 with ⟨_, h1⟩ | ⟨n, h1⟩
    · cases h1
    · rw [List.getElem?_set_ne n] at h2
      exact I.fr j z a hj h1 h2⟩
theorem cls_pe {X : Cx} {sc : Scope} {y : Str} {cv : Value} {cV : V} (hs : X.env.scope = sc) (h : ClsV X.mg y cv cV) (h1 : glB sc y = true) (h2 : nmB y = true) (p : Pos) : PE X (.Name y p) (tC cV) := by
  obtain ⟨n1, n2, n3⟩ := nmB_ok h2
  rcases h with ⟨A, hm, rfl, rfl⟩ | ⟨t, hm, hb, _, rfl, rfl⟩
  · exact pe_glob (glB_ok h1 hs) hm (v := .ref A) rfl n1
  · exact pe_bltn (glB_ok h1 hs) hm hb rfl n3 n1
theorem cls_rel {mg : Str → Option Value} {y : Str} {cv : Value} {cV : V} (h : ClsV mg y cv cV) : ∀ u, RelV cV u → u = cv := by
  rcases h with ⟨A, hm, rfl, rfl⟩ | ⟨t, hm, hb, _, rfl, rfl⟩
  · intro u r; exact r
  · intro u r; exact r
/-- a suite's context, the exception at a -/
theorem ctxH_as (c : CtxD C fn W cls X) {i : Nat} {a : Addr} {oe : Obj} {pn : List (Addr × Obj)} (hz : Zc (cls k) none oe) (hf : ∃ vs, oe.data = .fields vs) :
    CtxH C (X.suite a ((a, oe) :: pn)) (fun σ => σ[i]? = some (some (.ref a))) (some i) k where
  hN := c.c.hN
  nd := c.c.nd
  hs := c.c.hs
  fnc := c.c.fnc rfl
  bt := c.c.bt
  is := fun j y b hj hm => by
    cases hj
    obtain ⟨D, cv, cV, e, ec, hc, kit⟩ := (c.sb _ hm).ex
    rw [e] at hz
    exact ⟨a, cV, rIsE X.K D a, fun _ h => h, call_isE ec hz hf, fun p h1 h2 => cls_pe (X := X.suite a ((a, oe) :: pn)) c.c.hs hc h1 h2 p, fun H Q q => ⟨cV, cv, b, rfl, cls_rel hc, kit, q⟩⟩
  st := fun j v σ hj h => by
    show (σ.set j v)[i]? = _
    rw [List.getElem?_set_ne (fun e => hj (by rw [e]))]
    exact h
  un := c.c.un
theorem ctxH_no (c : CtxD C fn W cls X) {a : Addr} {pn : List (Addr × Obj)} : CtxH C (X.suite a pn) (fun _ => True) none k where
  hN := c.c.hN
  nd := c.c.nd
  hs := c.c.hs
  fnc := c.c.fnc rfl
  bt := c.c.bt
  is := fun j y b hj hm => by cases hj
  st := fun j v σ hj h => h
  un := c.c.un
theorem ctxD_tr (c : CtxD C fn W cls X) {W' : WX} {pn : List (Addr × Obj)} {xe : Value → Shared → Prop} (tk : Takes (X.tr pn xe) W') (po : PassesOwn (model X.prog X.w) X.A X.env xe) : CtxD C fn W' cls (X.tr pn xe) :=
  ⟨⟨c.c.hN, c.c.nd, c.c.hs, c.c.calm, c.c.fnc, c.c.bt, c.c.cs, c.c.un, tk, c.c.fns, c.c.objs, c.c.mets, c.c.mks, c.c.iscs, c.c.frm, fun u s' x => tk u s' (XH.def_ c.fm x)⟩, c.kind, po, c.ex, c.st, c.fm, c.sb, c.ct⟩
theorem cm_try (c : CtxD C fn W cls X) {b : Cmds} {i : Option Nat} {cc : Nat} {hs : Hds} {s : Stmt} (h : mC C (.try_ b i cc hs) s = true)
    (hb : ∀ (W : WX) (X' : Cx), CtxD C fn W cls X' → ∀ l, mCs C b l = true → PSs X' l (tCm C fn fu W cls X'.K G0 H0 (evCs fn fu b))) : PS X s (tCd C fn fu W cls X.K G0 H0 (.try_ b i cc hs)) := by
  unfold mC at h
  split at h
  · rename_i body x np n s0 ss p1 p2
    simp only [Bool.and_eq_true, decide_eq_true_eq] at h
    obtain ⟨⟨⟨⟨⟨⟨h1, h2⟩, h3⟩, h4⟩, h5⟩, h6⟩, h7⟩ := h
    obtain ⟨A, hv, hmg, _⟩ := (c.ex cc x h2 h5).ex
    obtain ⟨n1, n2, n3⟩ := nmB_ok h4
    have hN : Names X x (cls cc) := ⟨glB_ok h3 c.c.hs, n1, .inl (by rw [hv]; exact hmg)⟩
    have exm : ∀ {k : Nat}, (k, x) ∈ C.ct → PySem.W.exmOne X.K (cls k) (cls cc) = some true := fun {k} hm => by
      obtain ⟨D, A', e1, e2, e3⟩ := (c.ct _ hm).ex
      rw [hmg] at e2
      cases e2
      rw [hv, e1]
      exact e3
    have body_ : ∀ (Wn : WX) (pn : List (Addr × Obj)) (xe : Value → Shared → Prop), Takes (X.tr pn xe) Wn → PassesOwn (model X.prog X.w) X.A X.env xe → PSs (X.tr pn xe) body (tCm C fn fu Wn cls X.K G0 H0 (evCs fn fu b)) :=
      fun Wn pn xe tk po => hb Wn (X.tr pn xe) (ctxD_tr c tk po) body h1
    cases i with
    | some i =>
      cases n with
      | none => cases h6
      | some n =>
        unfold mAs at h6
        simp only [Bool.and_eq_true, decide_eq_true_eq] at h6
        obtain ⟨⟨h8, h9⟩, h10⟩ := h6
        have hloc : X.env.kindOf n = some .local := by
          unfold PySem.Env.kindOf
          rw [c.c.hs]
          split at h10
          · assumption
          · cases h10
        refine ps_imp (ps_try_as (i := i) (tb := fun Wn => tCm C fn fu Wn cls X.K G0 H0 (evCs fn fu b))
          (ts := fun a cv d D σ H => ∃ k h, cv = cls k ∧ d = none ∧ mHs C (some i) k h (s0 :: ss) = true ∧ tCh (fun σ => σ[i]? = some (some (.ref a))) C fn cls X.K G0 H0 (evCs fn fu h) D σ H)
          c.st c.fm (by rw [c.c.hN]; exact c.c.nd) (by rw [c.c.hN]; exact h8) hloc hN c.c.tk body_ (fun a oe cv d pn hz hf => pss_ex fun σ H D q => ?_)) fun D σ H q => ?_
        · obtain ⟨k, h, rfl, rfl, hm, q⟩ := q
          exact ⟨_, hs_all (fn := fn) (fu := fu) (cls := cls) (G0 := G0) (H0 := H0) (ctxH_as c hz hf) h hm, q⟩
        · obtain ⟨G, ρ, I, q⟩ := q
          refine ⟨G, ρ, I, ?_⟩
          have q : WantC W cls X.K C.T.isOwn C.fr G0 H0 (match evCs fn fu b ρ with
            | .exc k ρ' => if hasOp (some i) ρ' then wipeOo (some i) (evHs fn fu hs k (killOp (some i) ρ')) else .bad
            | o => o) G D := q
          cases e : evCs fn fu b ρ with
          | nx ρ4 => rw [e] at q; exact q
          | cont ρ4 => rw [e] at q; exact q
          | brk ρ4 => rw [e] at q; exact q
          | ret z => rw [e] at q; exact q
          | bad => rw [e] at q; exact q
          | exc k ρ' =>
            rw [e] at q
            intro σ' H' G' sg I'
            have q : WantC W cls X.K C.T.isOwn C.fr G0 H0 (if decide (i < ρ'.length) then wipeO i (evHs fn fu hs k (ρ'.set i none)) else .bad) G' D := WantC.shift sg q
            split at q
            · rename_i hlt
              have hlt := of_decide_eq_true hlt
              rcases hd_find (fn := fn) (fu := fu) (k := k) h7 with hbad | ⟨h, hm, hmh, heq⟩
              · rw [hbad] at q; exact q.elim
              · refine ⟨true, exm hm, fun _ a na => ⟨k, h, rfl, rfl, hmh, ?_, G', ρ'.set i none, I'.unset i _, ?_⟩, fun z => nomatch z⟩
                · exact List.getElem?_set_self (by rw [← I'.F.len]; exact hlt)
                · rw [heq] at q
                  cases e2 : evCs fn fu h (ρ'.set i none) with
                  | nx ρ4 => rw [e2] at q; exact fun σ2 H2 G2 s2 I2 _ => q _ _ _ s2 (I2.unset i none)
                  | cont ρ4 => rw [e2] at q; exact fun σ2 H2 G2 s2 I2 => q _ _ _ s2 (I2.unset i none)
                  | brk ρ4 => rw [e2] at q; exact fun σ2 H2 G2 s2 I2 => q _ _ _ s2 (I2.unset i none)
                  | ret z => rw [e2] at q; exact q
                  | bad => rw [e2] at q; exact q.elim
                  | exc _ _ => rw [e2] at q; exact q.elim
            · exact q.elim
    | none =>
      cases n with
      | some n => cases h6
      | none =>
        refine ps_imp (ps_try_only (tb := fun Wn => tCm C fn fu Wn cls X.K G0 H0 (evCs fn fu b))
          (ts := fun a cv d D σ H => ∃ k h, cv = cls k ∧ d = none ∧ mHs C none k h (s0 :: ss) = true ∧ tCh (fun _ => True) C fn cls X.K G0 H0 (evCs fn fu h) D σ H)
          c.st c.fm hN c.c.tk body_ (fun a oe cv d pn hz hf => pss_ex fun σ H D q => ?_)) fun D σ H q => ?_
        · obtain ⟨k, h, rfl, rfl, hm, q⟩ := q
          exact ⟨_, hs_all (fn := fn) (fu := fu) (cls := cls) (G0 := G0) (H0 := H0) (ctxH_no c) h hm, q⟩
        · obtain ⟨G, ρ, I, q⟩ := q
          refine ⟨G, ρ, I, ?_⟩
          have q : WantC W cls X.K C.T.isOwn C.fr G0 H0 (match evCs fn fu b ρ with
            | .exc k ρ' => if hasOp none ρ' then wipeOo none (evHs fn fu hs k (killOp none ρ')) else .bad
            | o => o) G D := q
          cases e : evCs fn fu b ρ with
          | nx ρ4 => rw [e] at q; exact q
          | cont ρ4 => rw [e] at q; exact q
          | brk ρ4 => rw [e] at q; exact q
          | ret z => rw [e] at q; exact q
          | bad => rw [e] at q; exact q
          | exc k ρ' =>
            rw [e] at q
            intro σ' H' G' sg I'
            have q : WantC W cls X.K C.T.isOwn C.fr G0 H0 (evHs fn fu hs k ρ') G' D := WantC.shift sg q
            rcases hd_find (fn := fn) (fu := fu) (k := k) h7 with hbad | ⟨h, hm, hmh, heq⟩
            · rw [hbad] at q; exact q.elim
            · refine ⟨true, exm hm, fun _ a na => ⟨k, h, rfl, rfl, hmh, trivial, G', ρ', I', ?_⟩, fun z => nomatch z⟩
              rw [heq] at q
              cases e2 : evCs fn fu h ρ' with
              | nx ρ4 => rw [e2] at q; exact fun σ2 H2 G2 s2 I2 _ => q _ _ _ s2 I2
              | cont ρ4 => rw [e2] at q; exact q
              | brk ρ4 => rw [e2] at q; exact q
              | ret z => rw [e2] at q; exact q
              | bad => rw [e2] at q; exact q.elim
              | exc _ _ => rw [e2] at q; exact q.elim
  · cases h
/-- two clauses -/
theorem hd_find2 {x y : Str} {l1 l2 : List Stmt} : ∀ {hs : Hds}, mHd2 C x y hs l1 l2 = true → (∀ ρ, evHs fn fu hs k ρ = .bad) ∨ ∃ h, (((k, x) ∈ C.ct ∧ mHs C none k h l1 = true) ∨ ((k, x, false) ∈ C.sb ∧ (k, y) ∈ C.ct ∧ mHs C none k h l2 = true)) ∧ ∀ ρ, evHs fn fu hs k ρ = noxO (evCs fn fu h ρ)
  | .nil, _ => .inl fun _ => rfl
  | .cons j h r, hm => by
    unfold mHd2 at hm
    simp only [Bool.and_eq_true, Bool.or_eq_true, decide_eq_true_eq] at hm
    by_cases e : k = j
    · subst e
      exact .inr ⟨h, hm.1.imp id fun q => ⟨q.1.1, q.1.2, q.2⟩, fun ρ => by unfold evHs; rw [if_pos rfl]⟩
    · have step : ∀ ρ, evHs fn fu (.cons j h r) k ρ = evHs fn fu r k ρ := fun ρ => by conv => lhs; unfold evHs; rw [if_neg e]
      rcases hd_find2 (hs := r) hm.2 with q | ⟨h', q1, q2⟩
      · exact .inl fun ρ => by rw [step, q]
      · exact .inr ⟨h', q1, fun ρ => by rw [step, q2]⟩
theorem cm_try2 (c : CtxD C fn W cls X) {b : Cmds} {c1 c2 : Nat} {hs : Hds} {s : Stmt} (h : mC C (.try2 b c1 c2 hs) s = true)
    (hb : ∀ (W : WX) (X' : Cx), CtxD C fn W cls X' → ∀ l, mCs C b l = true → PSs X' l (tCm C fn fu W cls X'.K G0 H0 (evCs fn fu b))) : PS X s (tCd C fn fu W cls X.K G0 H0 (.try2 b c1 c2 hs)) := by
  unfold mC at h
  split at h
  · rename_i body x np s0 ss p1 y nq r0 rs p2 p3
    simp only [Bool.and_eq_true, decide_eq_true_eq] at h
    obtain ⟨⟨⟨h1, ⟨⟨⟨h2, h3⟩, h4⟩, h5⟩⟩, ⟨⟨⟨k2, k3⟩, k4⟩, k5⟩⟩, h7⟩ := h
    obtain ⟨A, hv, hmg, _, _, hbe, _⟩ := (c.ex c1 x h2 h5).ex
    obtain ⟨A2, hv2, hmg2, _⟩ := (c.ex c2 y k2 k5).ex
    obtain ⟨n1, n2, n3⟩ := nmB_ok h4
    obtain ⟨m1, m2, m3⟩ := nmB_ok k4
    have hN : Names X x (cls c1) := ⟨glB_ok h3 c.c.hs, n1, .inl (by rw [hv]; exact hmg)⟩
    have hN2 : Names X y (cls c2) := ⟨glB_ok k3 c.c.hs, m1, .inl (by rw [hv2]; exact hmg2)⟩
    have exm : ∀ {k : Nat}, (k, x) ∈ C.ct → PySem.W.exmOne X.K (cls k) (cls c1) = some true := fun {k} hm => by
      obtain ⟨D, A', e1, e2, e3⟩ := (c.ct _ hm).ex
      rw [hmg] at e2
      cases e2
      rw [hv, e1]
      exact e3
    have exm2 : ∀ {k : Nat}, (k, y) ∈ C.ct → PySem.W.exmOne X.K (cls k) (cls c2) = some true := fun {k} hm => by
      obtain ⟨D, A', e1, e2, e3⟩ := (c.ct _ hm).ex
      rw [hmg2] at e2
      cases e2
      rw [hv2, e1]
      exact e3
    have exn : ∀ {k : Nat}, (k, x, false) ∈ C.sb → PySem.W.exmOne X.K (cls k) (cls c1) = some false := fun {k} hm => by
      obtain ⟨D, cv, cV, e1, _, hc, kit⟩ := (c.sb _ hm).ex
      have e2 : cv = .ref A := by
        rcases hc with ⟨A', q1, q2, _⟩ | ⟨t, q1, _⟩
        · rw [hmg] at q1; cases q1; exact q2
        · rw [hmg] at q1; cases q1
      subst e2
      have e1 : cls k = .ref D := e1
      have kit : PySem.W.kitOne X.K (.ref D) (.ref A) = some false := kit
      have kc : PySem.W.kitCls X.K (.ref D) (.ref A) = some false := by
        unfold PySem.W.kitOne at kit
        split at kit
        · cases kit
        · exact kit
      rw [hv, e1]
      unfold PySem.W.exmOne
      rw [hbe]
      exact kc
    have body_ : ∀ (Wn : WX) (pn : List (Addr × Obj)) (xe : Value → Shared → Prop), Takes (X.tr pn xe) Wn → PassesOwn (model X.prog X.w) X.A X.env xe → PSs (X.tr pn xe) body (tCm C fn fu Wn cls X.K G0 H0 (evCs fn fu b)) :=
      fun Wn pn xe tk po => hb Wn (X.tr pn xe) (ctxD_tr c tk po) body h1
    refine ps_imp (L2.ps_try_many (tb := fun Wn => tCm C fn fu Wn cls X.K G0 H0 (evCs fn fu b))
      (l := [(cls c1, fun a cv d D σ H => ∃ k h, cv = cls k ∧ d = none ∧ mHs C none k h (s0 :: ss) = true ∧ tCh (fun _ => True) C fn cls X.K G0 H0 (evCs fn fu h) D σ H), (cls c2, fun a cv d D σ H => ∃ k h, cv = cls k ∧ d = none ∧ mHs C none k h (r0 :: rs) = true ∧ tCh (fun _ => True) C fn cls X.K G0 H0 (evCs fn fu h) D σ H)])
      c.st c.fm c.c.tk body_ (.cons hN (fun a oe cv d pn hz hf => pss_ex fun σ H D q => ?_) (.cons hN2 (fun a oe cv d pn hz hf => pss_ex fun σ H D q => ?_) .nil))) fun D σ H q => ?_
    · obtain ⟨k, h, rfl, rfl, hm, q⟩ := q
      exact ⟨_, hs_all (fn := fn) (fu := fu) (cls := cls) (G0 := G0) (H0 := H0) (ctxH_no c) h hm, q⟩
    · obtain ⟨k, h, rfl, rfl, hm, q⟩ := q
      exact ⟨_, hs_all (fn := fn) (fu := fu) (cls := cls) (G0 := G0) (H0 := H0) (ctxH_no c) h hm, q⟩
    · obtain ⟨G, ρ, I, q⟩ := q
      refine ⟨G, ρ, I, ?_⟩
      have q : WantC W cls X.K C.T.isOwn C.fr G0 H0 (match evCs fn fu b ρ with
        | .exc k ρ' => evHs fn fu hs k ρ'
        | o => o) G D := q
      cases e : evCs fn fu b ρ with
      | nx ρ4 => rw [e] at q; exact q
      | cont ρ4 => rw [e] at q; exact q
      | brk ρ4 => rw [e] at q; exact q
      | ret z => rw [e] at q; exact q
      | bad => rw [e] at q; exact q
      | exc k ρ' =>
        rw [e] at q
        intro σ' H' G' sg I'
        have q : WantC W cls X.K C.T.isOwn C.fr G0 H0 (evHs fn fu hs k ρ') G' D := WantC.shift sg q
        rcases hd_find2 (fn := fn) (fu := fu) (k := k) h7 with hbad | ⟨h, hm, heq⟩
        · rw [hbad] at q; exact q.elim
        · rw [heq] at q
          have go : WantC W0 cls X.K C.T.isOwn C.fr G0 H0 (evCs fn fu h ρ') G' (pD (fun _ => True) D) := by
            cases e2 : evCs fn fu h ρ' with
            | nx ρ4 => rw [e2] at q; exact fun σ2 H2 G2 s2 I2 _ => q _ _ _ s2 I2
            | cont ρ4 => rw [e2] at q; exact q
            | brk ρ4 => rw [e2] at q; exact q
            | ret z => rw [e2] at q; exact q
            | bad => rw [e2] at q; exact q.elim
            | exc _ _ => rw [e2] at q; exact q.elim
          rcases hm with ⟨hm, hmh⟩ | ⟨hm0, hm, hmh⟩
          · exact ⟨true, exm hm, fun _ a na => ⟨k, h, rfl, rfl, hmh, trivial, G', ρ', I', go⟩, fun z => nomatch z⟩
          · exact ⟨false, exn hm0, (fun z => Bool.noConfusion z), fun _ => ⟨true, exm2 hm, fun _ a na => ⟨k, h, rfl, rfl, hmh, trivial, G', ρ', I', go⟩, fun z => Bool.noConfusion z⟩⟩
  · cases h
end
end Den
namespace Den
open PySem PySem.Spec PyProof.Rows L2
section
variable {C : Cfg} {fn : Nat → List D → R D} {fu : Nat} {W : WX} {cls : Nat → Value} {X : Cx} {G0 H0 : Hp}
abbrev tCs (C : Cfg) (fn : Nat → List D → R D) (fu : Nat) (W : WX) (cls : Nat → Value) (K : PySem.W.Frag) (G0 H0 : Hp) (x : Cmds) : TS := tCm C fn fu W cls K G0 H0 (evCs fn fu x)
theorem cm_if (c : CtxD C fn W cls X) {t : Ex} {a b : Cmds} {s : Stmt} (h : mC C (.if_ t a b) s = true) (ha : ∀ l, mCs C a l = true → PSs X l (tCs C fn fu W cls X.K G0 H0 a)) (hb : ∀ l, mCs C b l = true → PSs X l (tCs C fn fu W cls X.K G0 H0 b)) :
    PS X s (tCd C fn fu W cls X.K G0 H0 (.if_ t a b)) := by
  unfold mC at h
  split at h
  · simp only [Bool.and_eq_true] at h
    obtain ⟨⟨⟨h1, h2⟩, h3⟩, h4⟩ := h
    refine ps_imp (ps_if ((snd_all t c.c h1).pt h2) (ha _ h3) (hb _ h4)) fun D σ H q => ?_
    obtain ⟨G, ρ, I, q⟩ := q
    refine thenT I q fun k H1 G1 t1 I1 q1 => ?_
    cases k with
    | true => exact ⟨G1, ρ, I1, q1⟩
    | false => exact ⟨G1, ρ, I1, q1⟩
  · cases h
theorem cm_for (c : CtxD C fn W cls X) {it : Itr} {tg : Tg} {a : Cmds} {s : Stmt} (h : mC C (.for_ it tg a) s = true) (ha : ∀ l, mCs C a l = true → PSs X l (tCs C fn fu W cls X.K G0 H0 a)) : PS X s (tCd C fn fu W cls X.K G0 H0 (.for_ it tg a)) := by
  unfold mC at h
  split at h
  · simp only [Bool.and_eq_true] at h
    obtain ⟨⟨⟨⟨h1, h2⟩, h3⟩, h4⟩, h5⟩ := h
    obtain ⟨ht, hto⟩ := tg_ok c.c h4
    refine ps_imp (ps_for c.po c.c.calm (sndi_all it c.c h1) ht (ha _ h5) (plE_set h2)) fun D σ H q => ?_
    obtain ⟨G, ρ, I, q⟩ := q
    refine thenI I q fun xs J H1 G1 t1 I1 yl q1 => ?_
    refine ⟨fun i m σ H => m = xs.length - i ∧ i ≤ xs.length ∧ ∃ G ρ, SI X.K C.T.isOwn G0 H0 G ρ σ H ∧ Same G1 G ∧ WantC W cls X.K C.T.isOwn C.fr G0 H0 (forL (fun ρ x => thenO (bindT ρ tg x) ρ fun ρ' => evCs fn fu a ρ') (xs.drop i) ρ) G D,
      ⟨xs.length, by omega, Nat.zero_le _, G1, ρ, I1, Same.refl _, by rw [List.drop_zero]; exact q1⟩, ?_⟩
    rintro i m σ2 H2 ⟨rfl, hi, G2, ρ2, I2, sg, q2⟩
    obtain ⟨y1, y2⟩ := yl G2 H2 sg I2.F.ok (.inl h3)
    by_cases hlt : i < xs.length
    · have hx : xs[i]? = some xs[i] := List.getElem?_eq_getElem hlt
      obtain ⟨go, yy⟩ := y1 i _ hx
      rw [List.drop_eq_getElem_cons hlt, forL] at q2
      refine .inr ⟨go, fun σ' H' => ∃ G ρ, SI X.K C.T.isOwn G0 H0 G ρ σ' H' ∧ Same G1 G ∧ WantC W cls X.K C.T.isOwn C.fr G0 H0 (forL (fun ρ x => thenO (bindT ρ tg x) ρ fun ρ' => evCs fn fu a ρ') (xs.drop (i + 1)) ρ) G D, fun σ' H' hN => ?_, fun x H' hy => ?_⟩
      · obtain ⟨G', ρ', a1, a2, a3⟩ := hN
        exact ⟨xs.length - (i + 1), by omega, rfl, hlt, G', ρ', a1, a2, a3⟩
      · obtain ⟨G', t', rx⟩ := yy x H' hy
        have I3 := I2.step t'
        have q3 := WantC.shift t'.g q2
        have sg' := sg.trans t'.g
        cases e1 : bindT ρ2 tg xs[i] with
        | exc c' => exact absurd e1 (bindT_ne _ _ _ c')
        | bad => rw [e1] at q3; exact q3.elim
        | ok ρ3 =>
          rw [e1] at q3
          refine gT_readI hto I3 rx e1 fun σ3 I4 => ⟨G', ρ3, I4, ?_⟩
          have q3 : WantC W cls X.K C.T.isOwn C.fr G0 H0 (match evCs fn fu a ρ3 with
            | .nx ρ' => forL (fun ρ x => thenO (bindT ρ tg x) ρ fun ρ' => evCs fn fu a ρ') (xs.drop (i + 1)) ρ'
            | .cont ρ' => forL (fun ρ x => thenO (bindT ρ tg x) ρ fun ρ' => evCs fn fu a ρ') (xs.drop (i + 1)) ρ'
            | .brk ρ' => .nx ρ'
            | o => o) G' D := q3
          cases e2 : evCs fn fu a ρ3 with
          | nx ρ4 => rw [e2] at q3; exact fun σ' H' G'' s' I' => ⟨G'', ρ4, I', sg'.trans s', WantC.shift s' q3⟩
          | cont ρ4 => rw [e2] at q3; exact fun σ' H' G'' s' I' => ⟨G'', ρ4, I', sg'.trans s', WantC.shift s' q3⟩
          | brk ρ4 => rw [e2] at q3; exact fun σ' H' G'' s' I' => q3 σ' H' G'' s' I'
          | ret z => rw [e2] at q3; exact q3
          | exc c' ρ4 => rw [e2] at q3; exact q3
          | bad => rw [e2] at q3; exact q3
    · have ei : i = xs.length := by omega
      subst ei
      rw [List.drop_length, forL] at q2
      exact .inl ⟨y2, wantC_nx I2 q2⟩
  · cases h
theorem cm_while (c : CtxD C fn W cls X) {t : Ex} {a : Cmds} {s : Stmt} (h : mC C (.while_ t a) s = true) (ha : ∀ l, mCs C a l = true → PSs X l (tCs C fn fu W cls X.K G0 H0 a)) : PS X s (tCd C fn fu W cls X.K G0 H0 (.while_ t a)) := by
  unfold mC at h
  split at h
  · simp only [Bool.and_eq_true] at h
    obtain ⟨⟨h1, h2⟩, h3⟩ := h
    refine ps_imp (ps_while c.po ((snd_all t c.c h1).pt h2) (ha _ h3)) fun D σ H q => ?_
    obtain ⟨G1, ρ, I, q⟩ := q
    refine ⟨fun m σ H => ∃ G ρ, SI X.K C.T.isOwn G0 H0 G ρ σ H ∧ WantC W cls X.K C.T.isOwn C.fr G0 H0 (whL (fun ρ => ev fn t ρ) (fun ρ => evCs fn fu a ρ) m ρ) G D, ⟨fu, G1, ρ, I, q⟩, ?_⟩
    rintro m σ2 H2 ⟨G2, ρ2, I2, q2⟩
    cases m with
    | zero => exact q2.elim
    | succ m =>
      rw [whL] at q2
      refine thenT I2 q2 fun k H3 G3 t3 I3 q3 => ?_
      cases k with
      | false => exact wantC_nx I3 q3
      | true =>
        have q3 : WantC W cls X.K C.T.isOwn C.fr G0 H0 (match evCs fn fu a ρ2 with
            | .nx ρ' => whL (fun ρ => ev fn t ρ) (fun ρ => evCs fn fu a ρ) m ρ'
            | .cont ρ' => whL (fun ρ => ev fn t ρ) (fun ρ => evCs fn fu a ρ) m ρ'
            | .brk ρ' => .nx ρ'
            | o => o) G3 D := q3
        rw [if_pos rfl]
        refine ⟨fun σ' H' => ∃ G ρ, SI X.K C.T.isOwn G0 H0 G ρ σ' H' ∧ WantC W cls X.K C.T.isOwn C.fr G0 H0 (whL (fun ρ => ev fn t ρ) (fun ρ => evCs fn fu a ρ) m ρ) G D, fun σ' H' hN => ⟨m, Nat.lt_succ_self m, hN⟩, G3, ρ2, I3, ?_⟩
        cases e2 : evCs fn fu a ρ2 with
        | nx ρ4 => rw [e2] at q3; exact fun σ' H' G'' s' I' => ⟨G'', ρ4, I', WantC.shift s' q3⟩
        | cont ρ4 => rw [e2] at q3; exact fun σ' H' G'' s' I' => ⟨G'', ρ4, I', WantC.shift s' q3⟩
        | brk ρ4 => rw [e2] at q3; exact fun σ' H' G'' s' I' => q3 σ' H' G'' s' I'
        | ret z => rw [e2] at q3; exact q3
        | exc c' ρ4 => rw [e2] at q3; exact q3
        | bad => rw [e2] at q3; exact q3
  · cases h
/-- for tg in own: if c: return e -/
theorem cm_chk (c : CtxD C fn W cls X) {i : Nat} {tg : Tg} {t e : Ex} {s : Stmt} (h : mC C (.chk i tg t e) s = true) : PS X s (tCd C fn fu W cls X.K G0 H0 (.chk i tg t e)) := by
  unfold mC at h
  split at h
  · rename_i g x px tt v pv pi pf
    simp only [Bool.and_eq_true] at h
    obtain ⟨⟨⟨⟨⟨h1, h3⟩, h4⟩, h5⟩, h6⟩, h7⟩ := h
    have h1' : mI C.T (.seq (.var i)) C.sc g (.Name x px) = true := h1
    have hret : mC C (.ret e) (.Return (some v) pv) = true := by unfold mC; rw [Bool.and_eq_true]; exact ⟨h6, h7⟩
    obtain ⟨ht, hto⟩ := tg_ok c.c h3
    refine ps_imp (ps_for c.po c.c.calm (sndi_all (.seq (.var i)) c.c h1') ht (pss_cons (ps_if ((snd_all t c.c h4).pt h5) (pss_cons (cm_ret (fu := fu) (G0 := G0) (H0 := H0) c hret) pss_nil) pss_nil) pss_nil) (plE_set rfl)) fun D σ H q => ?_
    obtain ⟨G, ρ, I, q⟩ := q
    refine thenI I q fun xs J H1 G1 t1 I1 yl q1 => ?_
    refine ⟨fun i m σ H => m = xs.length - i ∧ i ≤ xs.length ∧ ∃ G ρ, SI X.K C.T.isOwn G0 H0 G ρ σ H ∧ Same G1 G ∧ Same H1 H ∧ WantC W cls X.K C.T.isOwn C.fr G0 H0 (forL (fun ρ x => thenO (bindT ρ tg x) ρ fun ρ' => thenO ((ev fn t ρ').bind asBool) ρ' fun k => if k then thenO (ev fn e ρ') ρ' fun z => .ret z else .nx ρ') (xs.drop i) ρ) G D,
      ⟨xs.length, by omega, Nat.zero_le _, G1, ρ, I1, Same.refl _, Same.refl _, by rw [List.drop_zero]; exact q1⟩, ?_⟩
    rintro i m σ2 H2 ⟨rfl, hi, G2, ρ2, I2, sg, sh, q2⟩
    obtain ⟨y1, y2⟩ := yl G2 H2 sg I2.F.ok (.inr sh)
    by_cases hlt : i < xs.length
    · have hx : xs[i]? = some xs[i] := List.getElem?_eq_getElem hlt
      obtain ⟨go, yy⟩ := y1 i _ hx
      rw [List.drop_eq_getElem_cons hlt, forL] at q2
      refine .inr ⟨go, fun σ' H' => ∃ G ρ, SI X.K C.T.isOwn G0 H0 G ρ σ' H' ∧ Same G1 G ∧ Same H1 H' ∧ WantC W cls X.K C.T.isOwn C.fr G0 H0 (forL (fun ρ x => thenO (bindT ρ tg x) ρ fun ρ' => thenO ((ev fn t ρ').bind asBool) ρ' fun k => if k then thenO (ev fn e ρ') ρ' fun z => .ret z else .nx ρ') (xs.drop (i + 1)) ρ) G D, fun σ' H' hN => ?_, fun x H' hy => ?_⟩
      · obtain ⟨G', ρ', a1, a2, a3, a4⟩ := hN
        exact ⟨xs.length - (i + 1), by omega, rfl, hlt, G', ρ', a1, a2, a3, a4⟩
      · obtain ⟨G', t', rx⟩ := yy x H' hy
        have I3 := I2.step t'
        have q3 := WantC.shift t'.g q2
        have sg' := sg.trans t'.g
        have sh' := sh.trans t'.h
        cases e1 : bindT ρ2 tg xs[i] with
        | exc c' => exact absurd e1 (bindT_ne _ _ _ c')
        | bad => rw [e1] at q3; exact q3.elim
        | ok ρ3 =>
          rw [e1] at q3
          refine gT_readI hto I3 rx e1 fun σ3 I4 => ?_
          have q3 : WantC W cls X.K C.T.isOwn C.fr G0 H0 (match thenO ((ev fn t ρ3).bind asBool) ρ3 fun k => if k then thenO (ev fn e ρ3) ρ3 fun z => .ret z else .nx ρ3 with
            | .nx ρ' => forL (fun ρ x => thenO (bindT ρ tg x) ρ fun ρ' => thenO ((ev fn t ρ').bind asBool) ρ' fun k => if k then thenO (ev fn e ρ') ρ' fun z => .ret z else .nx ρ') (xs.drop (i + 1)) ρ'
            | .cont ρ' => forL (fun ρ x => thenO (bindT ρ tg x) ρ fun ρ' => thenO ((ev fn t ρ').bind asBool) ρ' fun k => if k then thenO (ev fn e ρ') ρ' fun z => .ret z else .nx ρ') (xs.drop (i + 1)) ρ'
            | .brk ρ' => .nx ρ'
            | o => o) G' D := q3
          refine ⟨G', ρ3, I4.F, ?_⟩
          cases e2 : ev fn t ρ3 with
          | exc n => rw [e2] at q3; exact fun H5 G5 t5 => q3 σ3 H5 G5 t5.g (I4.step t5)
          | bad => rw [e2] at q3; exact q3.elim
          | ok z =>
            rw [e2] at q3
            cases z with
            | bl b =>
              intro H5 G5 t5
              cases b with
              | true =>
                refine ⟨G5, ρ3, I4.step t5, ?_⟩
                have q4 := WantC.shift t5.g q3
                show WantC W cls X.K C.T.isOwn C.fr G0 H0 (thenO (ev fn e ρ3) ρ3 fun z => .ret z) G5 _
                cases e3 : ev fn e ρ3 with
                | ok z =>
                  have q5 : WantC W cls X.K C.T.isOwn C.fr G0 H0 (match thenO (ev fn e ρ3) ρ3 fun z => .ret z with
                    | .nx ρ' => forL (fun ρ x => thenO (bindT ρ tg x) ρ fun ρ' => thenO ((ev fn t ρ').bind asBool) ρ' fun k => if k then thenO (ev fn e ρ') ρ' fun z => .ret z else .nx ρ') (xs.drop (i + 1)) ρ'
                    | .cont ρ' => forL (fun ρ x => thenO (bindT ρ tg x) ρ fun ρ' => thenO ((ev fn t ρ').bind asBool) ρ' fun k => if k then thenO (ev fn e ρ') ρ' fun z => .ret z else .nx ρ') (xs.drop (i + 1)) ρ'
                    | .brk ρ' => .nx ρ'
                    | o => o) G5 D := q4
                  rw [e3] at q5
                  exact q5
                | exc n =>
                  have q5 : WantC W cls X.K C.T.isOwn C.fr G0 H0 (match thenO (ev fn e ρ3) ρ3 fun z => .ret z with
                    | .nx ρ' => forL (fun ρ x => thenO (bindT ρ tg x) ρ fun ρ' => thenO ((ev fn t ρ').bind asBool) ρ' fun k => if k then thenO (ev fn e ρ') ρ' fun z => .ret z else .nx ρ') (xs.drop (i + 1)) ρ'
                    | .cont ρ' => forL (fun ρ x => thenO (bindT ρ tg x) ρ fun ρ' => thenO ((ev fn t ρ').bind asBool) ρ' fun k => if k then thenO (ev fn e ρ') ρ' fun z => .ret z else .nx ρ') (xs.drop (i + 1)) ρ'
                    | .brk ρ' => .nx ρ'
                    | o => o) G5 D := q4
                  rw [e3] at q5
                  exact q5
                | bad =>
                  have q5 : WantC W cls X.K C.T.isOwn C.fr G0 H0 (match thenO (ev fn e ρ3) ρ3 fun z => .ret z with
                    | .nx ρ' => forL (fun ρ x => thenO (bindT ρ tg x) ρ fun ρ' => thenO ((ev fn t ρ').bind asBool) ρ' fun k => if k then thenO (ev fn e ρ') ρ' fun z => .ret z else .nx ρ') (xs.drop (i + 1)) ρ'
                    | .cont ρ' => forL (fun ρ x => thenO (bindT ρ tg x) ρ fun ρ' => thenO ((ev fn t ρ').bind asBool) ρ' fun k => if k then thenO (ev fn e ρ') ρ' fun z => .ret z else .nx ρ') (xs.drop (i + 1)) ρ'
                    | .brk ρ' => .nx ρ'
                    | o => o) G5 D := q4
                  rw [e3] at q5
                  exact q5.elim
              | false => exact ⟨G5, ρ3, I4.step t5, sg'.trans t5.g, sh'.trans t5.h, WantC.shift t5.g q3⟩
            | _ => exact q3.elim
    · have ei : i = xs.length := by omega
      subst ei
      rw [List.drop_length, forL] at q2
      exact .inl ⟨y2, wantC_nx I2 q2⟩
  · cases h
mutual
theorem cm_all : ∀ (x : Cmd) {C : Cfg} {W : WX} {X : Cx} {G0 H0 : Hp} (c : CtxD C fn W cls X) {s : Stmt}, mC C x s = true → PS X s (tCd C fn fu W cls X.K G0 H0 x)
  | .set i e, C, W, X, G0, H0, c, _, h => cm_set c h
  | .own i e, C, W, X, G0, H0, c, _, h => cm_own c h
  | .tgt is e, C, W, X, G0, H0, c, _, h => cm_tgt c h
  | .mov i j, C, W, X, G0, H0, c, _, h => cm_mov c h
  | .aug i b e, C, W, X, G0, H0, c, _, h => cm_aug c h
  | .setIx i k e, C, W, X, G0, H0, c, _, h => cm_setIx c h
  | .app i e, C, W, X, G0, H0, c, _, h => cm_app c h
  | .appC i u bs, C, W, X, G0, H0, c, _, h => cm_appC c h
  | .appT i a bs, C, W, X, G0, H0, c, _, h => cm_appT c h
  | .appM i j, C, W, X, G0, H0, c, _, h => cm_appM c h
  | .ext i e, C, W, X, G0, H0, c, _, h => cm_ext c h
  | .pop j i, C, W, X, G0, H0, c, _, h => cm_pop c h
  | .clear i, C, W, X, G0, H0, c, _, h => cm_clear c h
  | .rvs i, C, W, X, G0, H0, c, _, h => cm_rvs c h
  | .expr e, C, W, X, G0, H0, c, _, h => cm_expr c h
  | .ret e, C, W, X, G0, H0, c, _, h => cm_ret c h
  | .retM i, C, W, X, G0, H0, c, _, h => cm_retM c h
  | .retN, C, W, X, G0, H0, c, _, h => cm_retN c h
  | .dput i k e, C, W, X, G0, H0, c, _, h => cm_dput c h
  | .dputT i k e, C, W, X, G0, H0, c, _, h => cm_dputT c h
  | .movD i j, C, W, X, G0, H0, c, _, h => cm_movD c h
  | .if_ t a b, C, W, X, G0, H0, c, _, h => cm_if c h (fun l hl => cms_all a c hl) fun l hl => cms_all b c hl
  | .for_ it tg a, C, W, X, G0, H0, c, _, h => cm_for c h fun l hl => cms_all a c hl
  | .while_ t a, C, W, X, G0, H0, c, _, h => cm_while c h fun l hl => cms_all a c hl
  | .pass, C, W, X, G0, H0, c, s, h => by
    unfold mC at h
    split at h
    · refine ps_imp ps_pass fun D σ H q => ?_
      obtain ⟨G, ρ, I, q⟩ := q
      exact wantC_nx I q
    · cases h
  | .brk, C, W, X, G0, H0, c, s, h => by
    unfold mC at h
    split at h
    · refine ps_imp ps_break fun D σ H q => ?_
      obtain ⟨G, ρ, I, q⟩ := q
      exact (show WantC W cls X.K C.T.isOwn C.fr G0 H0 (.brk ρ) G D from q) σ H G (Same.refl _) I
    · cases h
  | .cont, C, W, X, G0, H0, c, s, h => by
    unfold mC at h
    split at h
    · refine ps_imp ps_continue fun D σ H q => ?_
      obtain ⟨G, ρ, I, q⟩ := q
      exact (show WantC W cls X.K C.T.isOwn C.fr G0 H0 (.cont ρ) G D from q) σ H G (Same.refl _) I
    · cases h
  | .raise n, C, W, X, G0, H0, c, _, h => cm_raise c h
  | .kill is, C, W, X, G0, H0, c, _, h => by cases h
  | .try_ b i cc hs, C, W, X, G0, H0, c, _, h => cm_try c h fun _ _ c' l hl => cms_all b c' hl
  | .try2 b c1 c2 hs, C, W, X, G0, H0, c, _, h => cm_try2 c h fun _ _ c' l hl => cms_all b c' hl
  | .chk i tg t e, C, W, X, G0, H0, c, _, h => cm_chk c h
theorem cms_all : ∀ (x : Cmds) {C : Cfg} {W : WX} {X : Cx} {G0 H0 : Hp} (c : CtxD C fn W cls X) {l : List Stmt}, mCs C x l = true → PSs X l (tCs C fn fu W cls X.K G0 H0 x)
  | .nil, C, W, X, G0, H0, c, l, h => by
    cases l with
    | cons _ _ => cases h
    | nil =>
      refine pss_imp pss_nil fun D σ H q => ?_
      obtain ⟨G, ρ, I, q⟩ := q
      exact wantC_nx I q
  | .cons x r, C, W, X, G0, H0, c, l, h => by
    cases hk : killB x with
    | true =>
      cases x with
      | kill is =>
        have h : mCs C r l = true := h
        refine pss_imp (cms_all r (G0 := G0) (H0 := H0) c h) fun D σ H q => ?_
        obtain ⟨G, ρ, I, q⟩ := q
        exact ⟨G, wipeE ρ is, I.wipe is, q⟩
      | _ => cases hk
    | false =>
    cases l with
    | nil => unfold mCs at h; rw [hk] at h; cases h
    | cons s ss =>
      unfold mCs at h
      rw [hk] at h
      simp only [Bool.false_eq_true, if_false, Bool.and_eq_true] at h
      refine pss_imp (pss_cons (cm_all x (G0 := G0) (H0 := H0) c h.1) (cms_all r (G0 := G0) (H0 := H0) c h.2)) fun D σ H q => ?_
      obtain ⟨G, ρ, I, q⟩ := q
      refine ⟨G, ρ, I, ?_⟩
      have q : WantC W cls X.K C.T.isOwn C.fr G0 H0 (seqO (evC fn fu x ρ) fun ρ' => evCs fn fu r ρ') G D := q
      cases e : evC fn fu x ρ with
      | nx ρ4 => rw [e] at q; exact fun σ' H' G'' s' I' => ⟨G'', ρ4, I', WantC.shift s' q⟩
      | cont ρ4 => rw [e] at q; exact q
      | brk ρ4 => rw [e] at q; exact q
      | ret z => rw [e] at q; exact q
      | exc c' ρ4 => rw [e] at q; exact q
      | bad => rw [e] at q; exact q
  | .shr i r, C, W, X, G0, H0, c, l, h => by
    have h : mCs (C.shr i) r l = true := h
    have c' : CtxD (C.shr i) fn W cls X := ⟨⟨c.c.hN, c.c.nd, c.c.hs, c.c.calm, c.c.fnc, c.c.bt, c.c.cs, c.c.un, c.c.tk, c.c.fns, c.c.objs, c.c.mets, c.c.mks, c.c.iscs, c.c.frm, c.c.tkh⟩, c.kind, c.po, c.ex, c.st, c.fm, c.sb, c.ct⟩
    refine pss_imp (cms_all r (G0 := G0) (H0 := H0) c' h) fun D σ H q => ?_
    obtain ⟨G, ρ, I, q⟩ := q
    obtain ⟨G1, sg, I1⟩ := I.share i (own' := (C.shr i).T.isOwn) (fun j => isOwn_shr C.T i j)
    have q : WantC W cls X.K C.T.isOwn C.fr G0 H0 (wipeO i (evCs fn fu r ρ)) G1 D := WantC.shift sg q
    refine ⟨G1, ρ, I1, ?_⟩
    have back : ∀ {G' ρ' σ' H'}, SI X.K (C.shr i).T.isOwn G0 H0 G' ρ' σ' H' → SI X.K C.T.isOwn G0 H0 G' (ρ'.set i none) σ' H' := fun I' => I'.unshare i (own' := C.T.isOwn) (fun j => isOwn_shr C.T i j)
    cases e : evCs fn fu r ρ with
    | nx ρ4 => rw [e] at q; exact fun σ' H' G'' s' I' => q σ' H' G'' s' (back I')
    | cont ρ4 => rw [e] at q; exact fun σ' H' G'' s' I' => q σ' H' G'' s' (back I')
    | brk ρ4 => rw [e] at q; exact fun σ' H' G'' s' I' => q σ' H' G'' s' (back I')
    | ret z => rw [e] at q; exact q
    | exc c' ρ4 => rw [e] at q; exact fun σ' H' G'' s' I' => q σ' H' G'' s' (back I')
    | bad => rw [e] at q; exact q
end
end
theorem init_get {vs : List V} {ds : List D} {K : PySem.W.Frag} {G : Hp} {N : Nat} {M : List Str} (hM : M.length = N) (r : RpL K G vs ds) {i : Nat} {z : D} (h : (initE N ds)[i]? = some (some z)) : ∃ v, (L2.start M vs)[i]? = some (some v) ∧ Rp K G v z := by
  unfold initE at h
  unfold L2.start
  by_cases hi : i < ds.length
  · rw [List.getElem?_append_left (by rw [List.length_map]; exact hi), List.getElem?_map] at h
    have hv : i < vs.length := by rw [r.len]; exact hi
    rw [List.getElem?_append_left (by rw [List.length_map]; exact hv), List.getElem?_map]
    cases e : ds[i]? with
    | none => rw [e] at h; cases h
    | some w =>
      rw [e] at h
      cases h
      obtain ⟨v, e2, q⟩ := r.get e
      exact ⟨v, by rw [e2]; rfl, q⟩
  · rw [List.getElem?_append_right (by rw [List.length_map]; omega), List.getElem?_replicate] at h
    split at h <;> cases h
/-- what of the text own classes must have -/
structure ObjsD (K : PySem.W.Frag) (mg : Str → Option Value) (isc : List Nat) : Prop where
  ob : ∀ c C, clsAt K c = some C → ClsD K c C
  is : ∀ y ∈ isc, ∃ Y, mg (clsNm y) = some (.ref Y) ∧ ∀ c C, clsAt K c = some C → PySem.W.kitOne K (.ref C) (.ref Y) = some (subC c y)
/-- the parameters are not own -/
def parOk (C : Cfg) (n : Nat) : Bool := (List.range n).all fun i => !C.T.isOwn i
theorem fn_def {P : Program} {w : World} {K : PySem.W.Frag} {mg : Str → Option Value} {base : Heap} {cls : Nat → Value} {k fu : Nat} {f : Addr} {fd : FuncData} {st : Stmt} {C : Cfg} {fn : Nat → List D → R D} {x q : Str} {ps : List Str} {body : Cmds}
    (F : Fun K x q st f fd) (S : FnScope C.T.N ps (defScope st)) (hsc : C.sc = defScope st) (hm : mCs C body (defBody st) = true) (hp : parOk C ps.length = true)
    (bt : ∀ y ∈ C.T.bt, mg y = none) (cs : ∀ p ∈ C.T.cs, GcOk K mg p.1 p.2) (ex : ∀ (n : Nat) (y : Str), C.ex[n]? = some y → y ≠ "" → ExD K mg y (cls n))
    (sb : ∀ p ∈ C.sb, SubD K mg (cls p.1) p.2.1 p.2.2) (ct : ∀ p ∈ C.ct, CatD K mg (cls p.1) p.2)
    (fns : ∀ (A : Around), Room k A → ∀ g y n fr, C.T.fns.lookup g = some (y, n, fr) → FnD P w K mg base A cls (fn g) y n fr)
    (O : ObjsD K mg C.T.isc) (mets : ∀ (A : Around), Room k A → ∀ m n fr, C.T.mf.lookup m = some (n, fr) → ∀ c C', mcl m c = true → clsAt K c = some C' → MetD P w K mg base A cls (fn (mid c m)) C' c m n fr)
    (mks : ∀ (A : Around), Room k A → ∀ c x n b, C.T.mks.lookup c = some (x, n, b) → MkD P w K mg base A cls (fn (iid c)) c x n b) :
    FnOk P w K mg base (L2.CX P w) (k + 1) f fd ps (spD K cls ps.length C.fr (runF fn fu C.T.N.length C.fr body)) := by
  obtain ⟨oc, od, kV, doc, pm, an, cdv, ctv, osl, rfl, lk, hcd⟩ := F.ex
  refine fn_of lk hcd S (fun vs H Q E h => h.1) fun A outer s H vs Q E hr h => ?_
  obtain ⟨hl, G, ds, ok, r, h⟩ := h
  have c : CtxD C fn (fun cls d _ H => E cls d H) cls (cxOf (L2.CX P w) P w K mg base C.T.N q (defScope st) f cdv A outer s H E) := by
    refine ⟨⟨rfl, S.nd, hsc.symm, rfl, fun _ _ => rfl, bt, cs, ?_, takes_of rfl rfl rfl rfl, fns _ hr, O.ob, mets _ hr, mks _ hr, O.is, ⟨_, _, _, rfl, rfl, rfl⟩, fun u s' x => takes_of rfl rfl rfl rfl u s' (XH.def_ rfl x)⟩, S.kind, passes_of rfl, ex, rfl, rfl, sb, ct⟩
    exact hr.units
  refine ⟨_, cms_all (fu := fu) body (G0 := G) (H0 := H) c hm, ?_⟩
  have hlen : (initE C.T.N.length ds).length = (L2.start C.T.N vs).length := by
    unfold initE L2.start
    rw [List.length_append, List.length_append, List.length_map, List.length_map, List.length_replicate, List.length_replicate, r.len]
  have np : ∀ i z, C.T.isOwn i = true → (initE C.T.N.length ds)[i]? = some (some z) → False := fun i z hi e => by
    have hi2 : i < ds.length := by
      unfold initE at e
      by_cases q : i < ds.length
      · exact q
      · rw [List.getElem?_append_right (by rw [List.length_map]; omega), List.getElem?_replicate] at e
        split at e <;> cases e
    have := List.all_eq_true.mp hp i (List.mem_range.mpr (by rw [← hl, r.len]; exact hi2))
    rw [hi] at this
    cases this
  refine ⟨G, initE C.T.N.length ds, ⟨⟨ok, hlen, fun i z hi e => init_get rfl r e, fun i z hi e => (np i z hi e).elim, fun i j a y z hi hj e => (np i y hi e).elim⟩, Stp.refl ok, fun i z a hi e => (np i z hi e).elim⟩, ?_⟩
  unfold runF at h
  cases e : evCs fn fu body (initE C.T.N.length ds) with
  | nx ρ =>
    rw [e] at h
    intro σ' H' G' sg I
    cases hf : C.fr with
    | true => rw [hf] at h; exact h.elim
    | false =>
      rw [hf] at h
      exact h .non H' G' I.t (Rp.non)
  | ret z =>
    rw [e] at h
    exact fun v H' G' sg t p => h v H' G' t p
  | exc c' ρ =>
    rw [e] at h
    exact fun σ' H' G' sg I => h H' G' I.t
  | brk ρ => rw [e] at h; exact h.elim
  | cont ρ => rw [e] at h; exact h.elim
  | bad => rw [e] at h; exact h.elim
end Den
namespace Den
open PySem PySem.Spec PyProof.Rows L2
inductive Chk where
  | expr (e : Ex)
  | rif (c : Ex) (n : Nat)
section
variable (fn : Nat → List D → R D)
def evSets (ρ : Env) : List (Str × Ex) → R (List D)
  | [] => .ok []
  | (_, e) :: r => (ev fn e ρ).nox.bind fun z => (evSets ρ r).bind fun zs => .ok (z :: zs)
def chkR (ρ : Env) (f : R (List D)) : List Chk → R (List D)
  | [] => f
  | .expr e :: r => (ev fn e ρ).bind fun _ => chkR ρ f r
  | .rif c n :: r => ((ev fn c ρ).bind asBool).bind fun b => if b then .exc n else chkR ρ f r
def initI (n : Nat) (zs : List D) : Env := none :: initE (n - 1) zs
def runI (c n : Nat) (ck : List Chk) (sets : List (Str × Ex)) (zs : List D) : R D := (chkR fn (initI n zs) (evSets fn (initI n zs) sets) ck).bind fun ds => .ok (.obj c ds)
end
def mSets (T : Tbl) (sc : Scope) : List (Str × Ex) → List Stmt → Bool
  | [], l => match l with
    | [] => true
    | _ => false
  | (f, e) :: r, l => match l with
    | .Assign [.Attribute (.Name y _) g _] v _ :: ss => decide (g = f) && seeB T sc 0 y && nB T e && mE T e sc v && notLC v && mSets T sc r ss
    | _ => false
def mIni (C : Cfg) : List Chk → List (Str × Ex) → List Stmt → Bool
  | [], sets, l => mSets C.T C.sc sets l
  | .expr e :: r, sets, l => match l with
    | .Expr v _ :: ss => mE C.T e C.sc v && notLC v && mIni C r sets ss
    | _ => false
  | .rif c n :: r, sets, l => match l with
    | .If t [s0] [] _ :: ss => mE C.T c C.sc t && ntI t && mC C (.raise n) s0 && mIni C r sets ss
    | _ => false
theorem evSets_ne (fn : Nat → List D → R D) (ρ : Env) : ∀ (r : List (Str × Ex)) c, evSets fn ρ r ≠ .exc c
  | [] => ne_ok
  | (_, e) :: r => by
    rw [evSets]
    exact ne_bind (nox_ne _) fun _ => ne_bind (evSets_ne fn ρ r) fun _ => ne_ok
theorem putF_new {f : Str} {v : V} : ∀ {fs : List (Str × V)}, f ∉ fs.map (·.1) → putF f v fs = fs ++ [(f, v)]
  | [], _ => rfl
  | (g, x) :: r, h => by
    rw [List.map_cons, List.mem_cons, not_or] at h
    rw [putF, if_neg (fun e => h.1 e.symm), putF_new h.2]
    rfl
theorem upd_id {H : Hp} {x : Addr} {o : HO} (h : H x = some o) : L2.upd H x o = H := by
  funext b
  by_cases e : b = x
  · subst e; rw [upd_same, h]
  · rw [upd_ne e]
/-- the object that is being made stands aside -/
theorem Stp.aside {G0 H0 G H G1 H1 : Hp} {x : Addr} {o u : HO} (t0 : Stp G0 H0 G (L2.upd H x o)) (t : Stp G H G1 H1) (gx : G x = none) (hx : H x = some u) (w : Owb o) : Stp G0 H0 G1 (L2.upd H1 x o) := by
  have g1 : G1 x = none := t.k _ _ hx gx
  refine ⟨fun b y e => ?_, t0.g.trans t.g, ⟨fun b y e => ?_, fun b y e n => ?_⟩, fun b y e n => ?_⟩
  · have := t0.h _ _ e
    by_cases hb : b = x
    · subst hb; rw [upd_same] at this ⊢; exact this
    · rw [upd_ne hb] at this ⊢; exact t.h _ _ this
  · have hb : b ≠ x := fun q => by rw [q, g1] at e; cases e
    rw [upd_ne hb]; exact t.s _ _ e
  · by_cases hb : b = x
    · subst hb; rw [upd_same] at e; cases e; exact w
    · rw [upd_ne hb] at e; exact t.o.z _ _ e n
  · by_cases hb : b = x
    · subst hb; exact g1
    · have := t0.h _ _ e
      rw [upd_ne hb] at this
      exact t.k _ _ this (t0.k _ _ e n)
/-- .. and is changed there -/
theorem FI.aside {K : PySem.W.Frag} {own : Nat → Bool} {G H : Hp} {ρ : Env} {σ : L2.St} {x : Addr} {o : HO} (F : FI K own G ρ σ H) (ho : ∀ i a, own i = true → σ[i]? = some (some (.ref a)) → a ≠ x) (gx : G x = none) (w : Owb o) : FI K own G ρ σ (L2.upd H x o) where
  ok := ⟨fun b y e => by
    have hb : b ≠ x := fun q => by rw [q, gx] at e; cases e
    rw [upd_ne hb]; exact F.ok.s _ _ e, fun b y e n => by
    by_cases hb : b = x
    · subst hb; rw [upd_same] at e; cases e; exact w
    · rw [upd_ne hb] at e; exact F.ok.z _ _ e n⟩
  len := F.len
  sh := F.sh
  ow := fun i d h e => by
    obtain ⟨a, u, e1, ha, hg, r⟩ := F.ow i d h e
    exact ⟨a, u, e1, by rw [upd_ne (ho i a h e1)]; exact ha, hg, r⟩
  ap := F.ap
section
variable {C : Cfg} {fn : Nat → List D → R D} {W : WX} {cls : Nat → Value} {X : Cx} {G0 H0 : Hp}
/-- what a run of fields wants -/
def tSets (C : Cfg) (fn : Nat → List D → R D) (K : PySem.W.Frag) (G0 H0 : Hp) (c : Nat) (Cl x dx : Addr) (sets : List (Str × Ex)) : TS := fun D σ H => ∃ G ρ kvs zs ds, FI K C.T.isOwn G ρ σ H ∧ (∀ i a, C.T.isOwn i = true → σ[i]? = some (some (.ref a)) → a ≠ x) ∧ σ[0]? = some (some (.ref x)) ∧ H x = some (.ins Cl dx kvs) ∧ G x = none ∧
  Stp G0 H0 G (L2.upd H x (.ins Cl dx [])) ∧ kvs.map (·.1) ++ sets.map (·.1) = fldN c ∧ RpL K G (kvs.map (·.2)) zs ∧ evSets fn ρ sets = .ok ds ∧
  ∀ σ' H1 G1 kvs', Stp G0 H0 G1 H1 → kvs'.map (·.1) = fldN c → RpL K G1 (kvs'.map (·.2)) (zs ++ ds) → D.nx σ' (L2.upd H1 x (.ins Cl dx kvs'))
theorem fldN_nd (c : Nat) : (fldN c).Nodup ∧ (fldN c).length < 1000 := by
  unfold fldN
  split <;> exact ⟨by decide, by decide⟩
theorem sets_all (x dx : Addr) (cx : CtxD C fn W cls X) {c : Nat} {Cl : Addr} (k : ClsD X.K c Cl) : ∀ (sets : List (Str × Ex)) {l : List Stmt}, mSets C.T C.sc sets l = true → PSs X l (tSets C fn X.K G0 H0 c Cl x dx sets)
  | [], l, h => by
    cases l with
    | cons _ _ => cases h
    | nil =>
      refine pss_imp pss_nil fun D σ H q => ?_
      obtain ⟨G, ρ, kvs, zs, ds, F, _, h0, hx, gx, t, hn, r, he, q⟩ := q
      cases he
      have := q σ _ G kvs t (by rw [List.map_nil, List.append_nil] at hn; exact hn) (by rw [List.append_nil]; exact r)
      rw [upd_upd, upd_id hx] at this
      exact this
  | (f, e) :: r, l, h => by
    unfold mSets at h
    split at h
    · rename_i y py g ap v sp ss
      simp only [Bool.and_eq_true, decide_eq_true_eq] at h
      obtain ⟨⟨⟨⟨⟨rfl, h2⟩, h3⟩, h4⟩, h5⟩, h6⟩ := h
      have h2' := h2
      unfold seeB at h2'
      rw [Bool.and_eq_true, Bool.and_eq_true, decide_eq_true_eq] at h2'
      obtain ⟨n1, n2, n3⟩ := nmB_ok h2'.2
      have pv : PE X (.Name y py) (tVar 0) := pe_var (by rw [cx.c.hN]; exact h2'.1.1) (by rw [cx.c.hs]; exact visB_ok h2'.1.2) n1 n2
      refine pss_imp (pss_cons (ps_fld pv (snd_all e cx.c h4).pe (notLC_sw h5)) (sets_all x dx cx k r h6)) fun D σ H q => ?_
      obtain ⟨G, ρ, kvs, zs, ds, F, nx, h0, hx, gx, t, hn, rz, he, q⟩ := q
      rw [evSets] at he
      obtain ⟨z, e1, he⟩ := bind_okE he
      obtain ⟨ds', e2, he⟩ := bind_okE he
      cases he
      have e1 := nox_ok' e1
      refine ⟨G, ρ, F, ?_⟩
      rw [e1]
      intro vz H1 G1 t1 p1
      obtain ⟨G2, t2, r2⟩ := p1.toS (nB_ne h3) t1
      have hx1 : H1 x = some (.ins Cl dx kvs) := t2.h _ _ hx
      have g2 : G2 x = none := t2.k _ _ hx gx
      rw [List.map_cons] at hn
      have nd := (fldN_nd c)
      rw [← hn] at nd
      have nf : g ∉ kvs.map (·.1) := fun hm => (List.nodup_append.mp nd.1).2.2 g hm g List.mem_cons_self rfl
      have mf : g ∈ fldN c := by rw [← hn]; exact List.mem_append_right _ List.mem_cons_self
      refine ⟨.ref x, h0, x, Cl, dx, kvs, rfl, hx1, k.cl, k.na g mf, ?_, ?_⟩
      · have := nd.2
        rw [List.length_append, List.length_map] at this
        omega
      · rw [putF_new nf]
        refine ⟨G2, ρ, kvs ++ [(g, vz)], zs ++ [z], ds', (F.step t2).aside nx g2 trivial, nx, h0, upd_same, g2, ?_, ?_, ?_, e2, fun σ' H3 G3 kvs' t3 hn' r3 => q σ' H3 G3 kvs' t3 hn' (by rw [List.append_assoc] at r3; exact r3)⟩
        · rw [upd_upd]
          exact t.aside t2 gx hx trivial
        · rw [List.map_append, List.append_assoc]
          exact hn
        · rw [List.map_append]
          exact (rz.mono t2.g).append (.cons r2 .nil)
    · cases h
/-- what the checks and the fields behind them want -/
def tIni (C : Cfg) (fn : Nat → List D → R D) (W : WX) (cls : Nat → Value) (K : PySem.W.Frag) (G0 H0 : Hp) (c : Nat) (Cl x dx : Addr) (ck : List Chk) (sets : List (Str × Ex)) : TS := fun D σ H => ∃ G ρ, FI K C.T.isOwn G ρ σ H ∧ (∀ i a, C.T.isOwn i = true → σ[i]? = some (some (.ref a)) → a ≠ x) ∧ σ[0]? = some (some (.ref x)) ∧
  H x = some (.ins Cl dx []) ∧ G x = none ∧ Stp G0 H0 G H ∧ match chkR fn ρ (evSets fn ρ sets) ck with
    | .ok ds => ∀ σ' H1 G1 kvs', Stp G0 H0 G1 H1 → kvs'.map (·.1) = fldN c → RpL K G1 (kvs'.map (·.2)) ds → D.nx σ' (L2.upd H1 x (.ins Cl dx kvs'))
    | .exc n => ∀ H' G', Stp G0 H0 G' H' → W (cls n) none σ H'
    | .bad => False
theorem ini_all (x dx : Addr) (cx : CtxD C fn W cls X) (own : ∀ i, C.T.isOwn i = true → i = 1) {c : Nat} {Cl : Addr} (k : ClsD X.K c Cl) (hW : ∀ v o σ σ' H, W v o σ H → W v o σ' H) (sets : List (Str × Ex)) (hs : sets.map (·.1) = fldN c) :
    ∀ (ck : List Chk) {l : List Stmt}, mIni C ck sets l = true → PSs X l (tIni C fn W cls X.K G0 H0 c Cl x dx ck sets)
  | [], l, h => by
    refine pss_imp (sets_all (G0 := G0) (H0 := H0) x dx cx k sets h) fun D σ H q => ?_
    obtain ⟨G, ρ, F, nx, h0, hx, gx, t, q⟩ := q
    have q : (match evSets fn ρ sets with
      | .ok ds => ∀ σ' H1 G1 kvs', Stp G0 H0 G1 H1 → kvs'.map (·.1) = fldN c → RpL X.K G1 (kvs'.map (·.2)) ds → D.nx σ' (L2.upd H1 x (.ins Cl dx kvs'))
      | .exc n => ∀ H' G', Stp G0 H0 G' H' → W (cls n) none σ H'
      | .bad => False) := q
    cases e : evSets fn ρ sets with
    | exc n => exact absurd e (evSets_ne fn ρ sets n)
    | bad => rw [e] at q; exact q.elim
    | ok ds =>
      rw [e] at q
      exact ⟨G, ρ, [], [], ds, F, nx, h0, hx, gx, by rw [upd_id hx]; exact t, hs, .nil, e, q⟩
  | .expr e :: r, l, h => by
    unfold mIni at h
    split at h
    · simp only [Bool.and_eq_true] at h
      obtain ⟨⟨h1, h2⟩, h3⟩ := h
      refine pss_imp (pss_cons (ps_expr (snd_all e cx.c h1).pe (notLC_sw h2)) (ini_all x dx cx own k hW sets hs r h3)) fun D σ H q => ?_
      obtain ⟨G, ρ, F, nx, h0, hx, gx, t, q⟩ := q
      refine ⟨G, ρ, F, ?_⟩
      rw [chkR] at q
      cases e1 : ev fn e ρ with
      | exc n => rw [e1] at q; exact fun H' G' t' => q H' G' (t.trans t')
      | bad => rw [e1] at q; exact q
      | ok z =>
        rw [e1] at q
        exact fun v H1 G1 t1 p1 => ⟨G1, ρ, F.step t1, nx, h0, t1.h _ _ hx, t1.k _ _ hx gx, t.trans t1, q⟩
    · cases h
  | .rif b n :: r, l, h => by
    unfold mIni at h
    split at h
    · simp only [Bool.and_eq_true] at h
      obtain ⟨⟨⟨h1, h2⟩, h3⟩, h4⟩ := h
      refine pss_imp (pss_cons (ps_if ((snd_all b cx.c h1).pt h2) (pss_cons (cm_raise (fu := 0) (G0 := G0) (H0 := H0) cx h3) pss_nil) pss_nil) (ini_all x dx cx own k hW sets hs r h4)) fun D σ H q => ?_
      obtain ⟨G, ρ, F, nx, h0, hx, gx, t, q⟩ := q
      refine ⟨G, ρ, F, ?_⟩
      rw [chkR] at q
      cases e1 : ev fn b ρ with
      | exc n => rw [e1] at q; exact fun H' G' t' => q H' G' (t.trans t')
      | bad => rw [e1] at q; exact q
      | ok z =>
        rw [e1] at q
        cases z with
        | bl bb =>
          intro H1 G1 t1
          cases bb with
          | true => exact ⟨G1, ρ.set 1 none, ⟨(F.step t1).forget 1, t.trans t1, fun i z a hi e1 _ => by
            rcases set_get e1 with ⟨_, e2⟩ | ⟨n, _⟩
            · cases e2
            · exact absurd (own i hi).symm n⟩, fun σ' H' G' sg I => hW _ _ σ σ' H' (q H' G' I.t)⟩
          | false => exact ⟨G1, ρ, F.step t1, nx, h0, t1.h _ _ hx, t1.k _ _ hx gx, t.trans t1, q⟩
        | _ => exact q.elim
    · cases h
end
/-- __init__ of the text keeps its promise by data -/
theorem fn_ini {P : Program} {w : World} {K : PySem.W.Frag} {mg : Str → Option Value} {base : Heap} {cls : Nat → Value} {k : Nat} {f : Addr} {fd : FuncData} {st : Stmt} {C : Cfg} {fn : Nat → List D → R D} {x q : Str} {ps : List Str} {ck : List Chk} {sets : List (Str × Ex)} {c n : Nat} {b : Bool} {Cl : Addr}
    (F : Fun K x q st f fd) (S : FnScope C.T.N ps (defScope st)) (hsc : C.sc = defScope st) (hm : mIni C ck sets (defBody st) = true) (own : C.T.own = if b then [1] else []) (hb1 : b = true → n = 1) (hn : ps.length = n + 1) (hN : C.T.N.length ≠ 0) (hs : sets.map (·.1) = fldN c) (hc : clsAt K c = some Cl)
    (bt : ∀ y ∈ C.T.bt, mg y = none) (cs : ∀ p ∈ C.T.cs, GcOk K mg p.1 p.2) (ex : ∀ (n : Nat) (y : Str), C.ex[n]? = some y → y ≠ "" → ExD K mg y (cls n))
    (sb : ∀ p ∈ C.sb, SubD K mg (cls p.1) p.2.1 p.2.2) (ct : ∀ p ∈ C.ct, CatD K mg (cls p.1) p.2)
    (fns : ∀ (A : Around), Room k A → ∀ g y n fr, C.T.fns.lookup g = some (y, n, fr) → FnD P w K mg base A cls (fn g) y n fr)
    (O : ObjsD K mg C.T.isc) (mets : ∀ (A : Around), Room k A → ∀ m n fr, C.T.mf.lookup m = some (n, fr) → ∀ c C', mcl m c = true → clsAt K c = some C' → MetD P w K mg base A cls (fn (mid c m)) C' c m n fr)
    (mks : ∀ (A : Around), Room k A → ∀ c x n b, C.T.mks.lookup c = some (x, n, b) → MkD P w K mg base A cls (fn (iid c)) c x n b) :
    FnOk P w K mg base (L2.CX P w) (k + 1) f fd ps (spI K cls b c Cl n (runI fn c C.T.N.length ck sets)) := by
  obtain ⟨oc, od, kV, doc, pm, an, cdv, ctv, osl, rfl, lk, hcd⟩ := F.ex
  have nown : ∀ i, C.T.isOwn i = true → b = true ∧ i = 1 := fun i hi => by
    have hi : C.T.own.contains i = true := hi
    rw [own] at hi
    cases b with
    | true =>
      rw [if_pos rfl] at hi
      exact ⟨rfl, List.mem_singleton.mp (List.contains_iff_mem.mp hi)⟩
    | false => rw [if_neg Bool.false_ne_true] at hi; cases hi
  refine fn_of lk hcd S (fun vs H Q E h => by rw [h.1, hn]) fun A outer s H vs Q E hr h => ?_
  obtain ⟨hl, x, dx, ws, G, ds, rfl, hx, gx, ok, r, h⟩ := h
  have cx : CtxD C fn (fun cls d _ H => E cls d H) cls (cxOf (L2.CX P w) P w K mg base C.T.N q (defScope st) f cdv A outer s H E) := by
    refine ⟨⟨rfl, S.nd, hsc.symm, rfl, fun _ _ => rfl, bt, cs, ?_, takes_of rfl rfl rfl rfl, fns _ hr, O.ob, mets _ hr, mks _ hr, O.is, ⟨_, _, _, rfl, rfl, rfl⟩, fun u s' x => takes_of rfl rfl rfl rfl u s' (XH.def_ rfl x)⟩, S.kind, passes_of rfl, ex, rfl, rfl, sb, ct⟩
    exact hr.units
  refine ⟨_, ini_all (G0 := G) (H0 := H) x dx cx (fun i hi => (nown i hi).2) (O.ob c Cl hc) (fun _ _ _ _ _ h => h) sets hs ck hm, ?_⟩
  have wl : ws.length = ds.length := by
    cases b with
    | false => exact RpL.len r
    | true => obtain ⟨a, o, d, e1, e2, _⟩ := r; rw [e1, e2]; rfl
  have hN1 : C.T.N.length - (ws.length + 1) = C.T.N.length - 1 - ds.length := by rw [wl]; omega
  have e0 : L2.start C.T.N (.ref x :: ws) = some (.ref x) :: (ws.map some ++ List.replicate (C.T.N.length - 1 - ds.length) none) := by
    unfold L2.start
    rw [List.length_cons, hN1]; rfl
  have hlen : (initI C.T.N.length ds).length = (L2.start C.T.N (.ref x :: ws)).length := by
    rw [e0]
    unfold initI initE
    rw [List.length_cons, List.length_cons, List.length_append, List.length_append, List.length_map, List.length_map, List.length_replicate, List.length_replicate, wl]
  have F0 : FI K C.T.isOwn G (initI C.T.N.length ds) (L2.start C.T.N (.ref x :: ws)) H ∧ ∀ i a, C.T.isOwn i = true → (L2.start C.T.N (.ref x :: ws))[i]? = some (some (.ref a)) → a ≠ x := by
    cases hb : b with
    | false =>
      rw [hb] at r
      have no : ∀ i, C.T.isOwn i = false := fun i => by
        cases q : C.T.isOwn i with
        | false => rfl
        | true => have := (nown i q).1; rw [hb] at this; cases this
      have r : RpL K G ws ds := r
      refine ⟨⟨ok, hlen, fun i z hi e => ?_, (fun i z hi e => absurd hi (by rw [no i]; exact Bool.false_ne_true)), (fun i j a y z hi => absurd hi (by rw [no i]; exact Bool.false_ne_true))⟩, fun i a hi => absurd hi (by rw [no i]; exact Bool.false_ne_true)⟩
      revert e
      cases i with
      | zero => intro e; unfold initI at e; cases e
      | succ i =>
        intro e
        have e : (initE (C.T.N.length - 1) ds)[i]? = some (some z) := e
        obtain ⟨v, e1, rv⟩ := init_get (M := C.T.N.tail) (by rw [List.length_tail]) r e
        refine ⟨v, ?_, rv⟩
        rw [e0]
        show (ws.map some ++ List.replicate (C.T.N.length - 1 - ds.length) none)[i]? = _
        unfold L2.start at e1
        rw [List.length_tail, r.len] at e1
        exact e1
    | true =>
      rw [hb] at r own
      obtain ⟨a, o, d, rfl, rfl, ha, hga, nx, ro⟩ := r
      have is1 : C.T.isOwn 1 = true := by show C.T.own.contains 1 = true; rw [own]; rfl
      have s1 : (L2.start C.T.N (.ref x :: [.ref a]))[1]? = some (some (.ref a)) := by rw [e0]; rfl
      have at1 : ∀ i z, (initI C.T.N.length [d])[i]? = some (some z) → i = 1 ∧ z = d := fun i z e => by
        unfold initI initE at e
        match i, e with
        | 0, e => cases e
        | 1, e => cases e; exact ⟨rfl, rfl⟩
        | i + 2, e =>
          have e : (List.replicate (C.T.N.length - 1 - [d].length) (none : Option D))[i]? = some (some z) := e
          rw [List.getElem?_replicate] at e
          split at e <;> cases e
      refine ⟨⟨ok, hlen, fun i z hi e => ?_, fun i z hi e => ?_, fun i j b y z hi hj e1 e2 _ _ => by rw [(at1 i y e1).1, (at1 j z e2).1]⟩, fun i b hi e => ?_⟩
      · rw [(at1 i z e).1, is1] at hi; cases hi
      · obtain ⟨rfl, rfl⟩ := at1 i z e
        exact ⟨a, o, s1, ha, hga, ro⟩
      · rw [(nown i hi).2, s1] at e
        cases e; exact nx
  refine ⟨G, initI C.T.N.length ds, F0.1, F0.2, by rw [e0]; rfl, hx, gx, Stp.refl ok, ?_⟩
  · unfold runI at h
    cases e : chkR fn (initI C.T.N.length ds) (evSets fn (initI C.T.N.length ds) sets) ck with
    | bad => rw [e] at h; exact h.elim
    | exc n => rw [e] at h; exact fun H' G' t => h H' G' t
    | ok zs =>
      rw [e] at h
      obtain ⟨zs', hz, h⟩ := (show ∃ zs', D.obj c zs = .obj c zs' ∧ ∀ H1 G1 kvs, Stp G H G1 H1 → kvs.map (·.1) = fldN c → RpL K G1 (kvs.map (·.2)) zs' → Q .non (L2.upd H1 x (.ins Cl dx kvs)) from h)
      cases hz
      exact fun σ' H1 G1 kvs' t hn' r' => h H1 G1 kvs' t hn' r'
end Den
namespace Den
open PySem PySem.Spec PyProof.Rows L2
/-- a def and its term -/
structure DefM where
  id : Nat
  nm : Str
  qn : Str
  ps : List Str
  N : List Str
  own : List Nat
  fr : Bool
  body : Cmds
/-- a method of these classes -/
structure MetM where
  d : DefM
  m : Nat
  cs : List Nat
/-- the making of these classes -/
structure IniM where
  qn : Str
  cs : List Nat
  ps : List Str
  N : List Str
  ck : List Chk
  sets : List (Str × Ex)
  /-- made of one own thing that is lent -/
  lent : Bool := false
structure TabR where
  defs : List DefM
  mets : List MetM
  inis : List IniM
/-- what the top holds besides -/
structure Top where
  cs : List (Str × GC)
  bt : List Str
  ex : List Str
  sb : List (Nat × Str × Bool)
  ct : List (Nat × Str)
  isc : List Nat
  /-- the classes that are there -/
  cls : List Nat
inductive Rec where
  | d (x : DefM)
  | i (c : Nat) (x : IniM)
def TabR.def? (t : TabR) (f : Nat) : Option DefM := t.defs.find? fun d => d.id == f
def TabR.met? (t : TabR) (c m : Nat) : Option MetM := t.mets.find? fun e => e.m == m && e.cs.contains c
def TabR.ini? (t : TabR) (c : Nat) : Option IniM := t.inis.find? fun e => e.cs.contains c
def TabR.get (t : TabR) (f : Nat) : Option Rec := if f < 90000 then (t.def? f).map .d else if f < 100000 then (t.ini? (f - 90000)).map (.i (f - 90000)) else (t.met? ((f - 100000) / 100) ((f - 100000) % 100)).map fun e => .d e.d
def recF (fn : Nat → List D → R D) (fu : Nat) : Option Rec → List D → R D
  | some (.d d) => runF fn fu d.N.length d.fr d.body
  | some (.i c x) => runI fn c x.N.length x.ck x.sets
  | none => fun _ => .bad
/-- what is computed, n calls deep -/
def fnR (t : TabR) (fu : Nat) : Nat → Nat → List D → R D
  | 0, _ => fun _ => .bad
  | n + 1, f => recF (fnR t fu n) fu (t.get f)
theorem fnR_s (t : TabR) (fu n f : Nat) : fnR t fu (n + 1) f = recF (fnR t fu n) fu (t.get f) := rfl
def fnsOf (l : List DefM) : List (Nat × Str × Nat × Bool) := l.map fun d => (d.id, d.nm, d.ps.length, d.fr)
def mfOf (l : List MetM) : List (Nat × Nat × Bool) := l.map fun e => (e.m, e.d.ps.length, e.d.fr)
def mkOf (l : List IniM) : List (Nat × Str × Nat × Bool) := l.flatMap fun e => e.cs.map fun c => (c, clsNm c, e.ps.length - 1, e.lent)
def tblOf (t : TabR) (o : Top) (N : List Str) (own : List Nat) : Tbl := ⟨N, own, fnsOf t.defs, o.cs, o.bt, mfOf t.mets, mkOf t.inis, o.isc⟩
def cfgOf (t : TabR) (o : Top) (d : DefM) (sc : Scope) : Cfg := ⟨tblOf t o d.N d.own, sc, o.ex, o.sb, o.ct, d.fr⟩
def cfgI (t : TabR) (o : Top) (d : IniM) (sc : Scope) : Cfg := ⟨tblOf t o d.N (if d.lent then [1] else []), sc, o.ex, o.sb, o.ct, false⟩
def fsB (N ps : List Str) (sc : Scope) : Bool :=
  (match sc.kind with | .function => true | _ => false) && !sc.isCoroutine && !sc.isGenerator && decide N.Nodup && decide (N.take ps.length = ps) &&
    (ps.all fun x => match sc.names.lookup x with | some .local => true | some .cell => true | _ => false) && (sc.names.all fun y => match y.2 with | .free => false | _ => true)
theorem fsB_ok {N ps : List Str} {sc : Scope} (h : fsB N ps sc = true) : FnScope N ps sc := by
  unfold fsB at h
  simp only [Bool.and_eq_true, decide_eq_true_eq, List.all_eq_true] at h
  obtain ⟨⟨⟨⟨⟨⟨h1, h2⟩, h3⟩, h4⟩, h5⟩, h6⟩, h7⟩ := h
  refine ⟨?_, by simpa using h2, by simpa using h3, h4, h5, fun x hx => ?_, fun y hy e => ?_⟩
  · cases q : sc.kind <;> rw [q] at h1 <;> first | rfl | cases h1
  · have := h6 x hx
    split at this
    · exact .inl (by assumption)
    · exact .inr (by assumption)
    · cases this
  · have := h7 y hy
    rw [e] at this
    cases this
/-- one def against its text -/
def chk1 (t : TabR) (o : Top) (d : DefM) (st : Stmt) : Bool := fsB d.N d.ps (defScope st) && mCs (cfgOf t o d (defScope st)) d.body (defBody st) && parOk (cfgOf t o d (defScope st)) d.ps.length
def chkI (t : TabR) (o : Top) (d : IniM) (st : Stmt) : Bool := fsB d.N d.ps (defScope st) && mIni (cfgI t o d (defScope st)) d.ck d.sets (defBody st) && decide (1 ≤ d.ps.length) && (!d.lent || decide (d.ps.length = 2)) && decide (d.N.length ≠ 0) && d.cs.all (fun c => decide (d.sets.map (·.1) = fldN c) && decide (c < 100))
/-- the table within itself: numbers in their ranges, each method there for each class that has it -/
def tabOk (t : TabR) (o : Top) : Bool := t.defs.all (fun d => decide (d.id < 90000)) && t.mets.all (fun e => decide (e.m < 100) && o.cls.all (fun c => !mcl e.m c || (match t.met? c e.m with | some e' => decide (e'.d.ps.length = e.d.ps.length) && decide (e'.d.fr = e.d.fr) | none => false)) &&
  e.cs.all fun c => decide (mNm e.m ∉ fldN c))
/-- where a def, a method, a making stands -/
structure PlD (K : PySem.W.Frag) (mg : Str → Option Value) (d : DefM) (st : Stmt) : Prop where
  ex : ∃ f fd, Fun K d.nm d.qn st f fd ∧ mg d.nm = some (.ref f) ∧ ∀ us : List Value, us.length = d.ps.length → bindArgs fd ⟨us, []⟩ = pure (d.ps.zip us)
structure PlM (K : PySem.W.Frag) (e : MetM) (st : Stmt) : Prop where
  ex : ∃ f fd, Fun K e.d.nm e.d.qn st f fd ∧ (∀ us : List Value, us.length = e.d.ps.length → bindArgs fd ⟨us, []⟩ = pure (e.d.ps.zip us)) ∧ ∀ c ∈ e.cs, ∀ C, clsAt K c = some C → Meth K C (mNm e.m) f
structure PlI (K : PySem.W.Frag) (mg : Str → Option Value) (e : IniM) (st : Stmt) : Prop where
  ex : ∃ f fd, Fun K "__init__" e.qn st f fd ∧ (∀ us : List Value, us.length = e.ps.length → bindArgs fd ⟨us, []⟩ = pure (e.ps.zip us)) ∧ ∀ c ∈ e.cs, ∃ C, clsAt K c = some C ∧ mg (clsNm c) = some (.ref C) ∧ Mk K C f
/-- the whole table stands in the text -/
structure Stands (K : PySem.W.Frag) (mg : Str → Option Value) (t : TabR) (o : Top) : Prop where
  ok : tabOk t o = true
  df : ∀ d ∈ t.defs, ∃ st, chk1 t o d st = true ∧ PlD K mg d st
  mt : ∀ e ∈ t.mets, ∃ st, chk1 t o e.d st = true ∧ PlM K e st
  it : ∀ e ∈ t.inis, ∃ st, chkI t o e st = true ∧ PlI K mg e st
  cl : ∀ c C, clsAt K c = some C → c ∈ o.cls
  O : ObjsD K mg o.isc
theorem look_fns {x : Str} {n : Nat} {fr : Bool} {f : Nat} : ∀ {l : List DefM}, (fnsOf l).lookup f = some (x, n, fr) → ∃ d, d ∈ l ∧ l.find? (fun d => d.id == f) = some d ∧ d.id = f ∧ d.nm = x ∧ d.ps.length = n ∧ d.fr = fr
  | [], h => by simp [fnsOf] at h
  | d :: l, h => by
    have h : ((d.id, d.nm, d.ps.length, d.fr) :: fnsOf l).lookup f = some (x, n, fr) := h
    rw [List.lookup_cons] at h
    by_cases e : f = d.id
    · rw [beq_iff_eq.mpr e] at h
      simp only [Option.some.injEq, Prod.mk.injEq] at h
      obtain ⟨rfl, rfl, rfl⟩ := h
      exact ⟨d, List.mem_cons_self, by rw [List.find?_cons, beq_iff_eq.mpr e.symm], e.symm, rfl, rfl, rfl⟩
    · rw [beq_eq_false_iff_ne.mpr e] at h
      obtain ⟨d', h1, h2, h3⟩ := look_fns h
      exact ⟨d', List.mem_cons_of_mem _ h1, by rw [List.find?_cons, beq_eq_false_iff_ne.mpr (fun q => e q.symm)]; exact h2, h3⟩
theorem look_mf {n : Nat} {fr : Bool} {m : Nat} : ∀ {l : List MetM}, (mfOf l).lookup m = some (n, fr) → ∃ e, e ∈ l ∧ e.m = m ∧ e.d.ps.length = n ∧ e.d.fr = fr
  | [], h => by simp [mfOf] at h
  | d :: l, h => by
    have h : ((d.m, d.d.ps.length, d.d.fr) :: mfOf l).lookup m = some (n, fr) := h
    rw [List.lookup_cons] at h
    by_cases e : m = d.m
    · rw [beq_iff_eq.mpr e] at h
      simp only [Option.some.injEq, Prod.mk.injEq] at h
      obtain ⟨rfl, rfl⟩ := h
      exact ⟨d, List.mem_cons_self, e.symm, rfl, rfl⟩
    · rw [beq_eq_false_iff_ne.mpr e] at h
      obtain ⟨d', h1, h2⟩ := look_mf h
      exact ⟨d', List.mem_cons_of_mem _ h1, h2⟩
theorem look_cs {c : Nat} {x : Str} {n : Nat} {b w : Bool} {k : Nat} {r : List (Nat × Str × Nat × Bool)} : ∀ {cs : List Nat}, ((cs.map fun c => (c, clsNm c, k, w)) ++ r).lookup c = some (x, n, b) → (c ∈ cs ∧ x = clsNm c ∧ n = k ∧ b = w) ∨ (c ∉ cs ∧ r.lookup c = some (x, n, b))
  | [], h => .inr ⟨by simp, h⟩
  | a :: cs, h => by
    rw [List.map_cons, List.cons_append, List.lookup_cons] at h
    by_cases e : c = a
    · rw [beq_iff_eq.mpr e] at h
      cases h
      exact .inl ⟨by rw [e]; exact List.mem_cons_self, by rw [e], rfl, rfl⟩
    · rw [beq_eq_false_iff_ne.mpr e] at h
      rcases look_cs h with ⟨h1, h2⟩ | ⟨h1, h2⟩
      · exact .inl ⟨List.mem_cons_of_mem _ h1, h2⟩
      · exact .inr ⟨by rw [List.mem_cons, not_or]; exact ⟨e, h1⟩, h2⟩
theorem look_mk {c : Nat} {x : Str} {n : Nat} {b : Bool} : ∀ {l : List IniM}, (mkOf l).lookup c = some (x, n, b) → ∃ e, e ∈ l ∧ l.find? (fun e => e.cs.contains c) = some e ∧ c ∈ e.cs ∧ x = clsNm c ∧ n = e.ps.length - 1 ∧ b = e.lent
  | [], h => by simp [mkOf] at h
  | d :: l, h => by
    have h : ((d.cs.map fun c => (c, clsNm c, d.ps.length - 1, d.lent)) ++ mkOf l).lookup c = some (x, n, b) := h
    rcases look_cs h with ⟨h1, h2, h3, h4⟩ | ⟨h1, h2⟩
    · exact ⟨d, List.mem_cons_self, by rw [List.find?_cons, List.contains_iff_mem.mpr h1], h1, h2, h3, h4⟩
    · obtain ⟨e, k1, k2, k3⟩ := look_mk h2
      refine ⟨e, List.mem_cons_of_mem _ k1, ?_, k3⟩
      have : d.cs.contains c = false := by
        cases q : d.cs.contains c with
        | false => rfl
        | true => exact absurd (List.contains_iff_mem.mp q) h1
      rw [List.find?_cons, this]
      exact k2
theorem get_def {t : TabR} {f : Nat} (h : f < 90000) : t.get f = (t.def? f).map .d := by unfold TabR.get; rw [if_pos h]
theorem get_iid {t : TabR} {c : Nat} (h : c < 100) : t.get (iid c) = (t.ini? c).map (.i c) := by
  unfold TabR.get iid
  rw [if_neg (by omega), if_pos (by omega), Nat.add_sub_cancel_left]
theorem get_mid {t : TabR} {c m : Nat} (h : m < 100) : t.get (mid c m) = (t.met? c m).map fun e => .d e.d := by
  have e1 : (mid c m - 100000) / 100 = c := by unfold mid; omega
  have e2 : (mid c m - 100000) % 100 = m := by unfold mid; omega
  unfold TabR.get
  rw [e1, e2, if_neg (by unfold mid; omega), if_neg (by unfold mid; omega)]
section
variable {P : Program} {w : World} {K : PySem.W.Frag} {mg : Str → Option Value} {base : Heap} {cls : Nat → Value} {fu : Nat} {t : TabR} {o : Top}
structure AllOk (P : Program) (w : World) (K : PySem.W.Frag) (mg : Str → Option Value) (base : Heap) (cls : Nat → Value) (fu : Nat) (t : TabR) (n : Nat) : Prop where
  fns : ∀ g y k fr, (fnsOf t.defs).lookup g = some (y, k, fr) → ∃ fa fd ps, FnOk P w K mg base (L2.CX P w) (2 * n) fa fd ps (spD K cls k fr (fnR t fu n g)) ∧ mg y = some (.ref fa) ∧ PySem.W.keepIn K (.ref fa) = true ∧ Binds K fd ps []
  mts : ∀ m k fr, (mfOf t.mets).lookup m = some (k, fr) → ∀ c C, mcl m c = true → clsAt K c = some C → ∃ fa fd ps, FnOk P w K mg base (L2.CX P w) (2 * n) fa fd ps (spD K cls k fr (fnR t fu n (mid c m))) ∧ Meth K C (mNm m) fa ∧ Binds K fd ps [] ∧ mNm m ∉ fldN c
  mks : ∀ c x k b, (mkOf t.inis).lookup c = some (x, k, b) → ∃ C fa fd ps, FnOk P w K mg base (L2.CX P w) (2 * n) fa fd ps (spI K cls b c C k (fnR t fu n (iid c))) ∧ clsAt K c = some C ∧ mg x = some (.ref C) ∧ Mk K C fa ∧ Binds K fd ps [] ∧ ∀ zs z, fnR t fu n (iid c) zs = .ok z → ∃ fs, z = .obj c fs
/-- at no depth nothing is promised -/
theorem fn_zero {f : Addr} {fd : FuncData} {ps : List Str} {k n : Nat} {fr : Bool} (h : ps.length = n) : FnOk P w K mg base (L2.CX P w) k f fd ps (spD K cls n fr fun _ => .bad) :=
  ⟨fun vs H Q E h' => by rw [h'.1, h], fun A outer s H args us vs Q E _ _ _ _ h' => by obtain ⟨_, _, _, _, _, h'⟩ := h'; exact h'.elim⟩
theorem ini_zero {f C : Addr} {fd : FuncData} {ps : List Str} {k n c : Nat} {b : Bool} (h : ps.length = n + 1) : FnOk P w K mg base (L2.CX P w) k f fd ps (spI K cls b c C n fun _ => .bad) :=
  ⟨fun vs H Q E h' => by rw [h'.1, h], fun A outer s H args us vs Q E _ _ _ _ h' => by obtain ⟨_, _, _, _, _, _, _, _, _, _, _, h'⟩ := h'; exact h'.elim⟩
theorem runI_obj {fn : Nat → List D → R D} {c n : Nat} {ck : List Chk} {sets : List (Str × Ex)} {zs : List D} {z : D} (h : runI fn c n ck sets zs = .ok z) : ∃ fs, z = .obj c fs := by
  unfold runI at h
  obtain ⟨ds, _, e⟩ := bind_okE h
  cases e
  exact ⟨ds, rfl⟩
theorem tab_m (S : Stands K mg t o) {m k : Nat} {fr : Bool} (h : (mfOf t.mets).lookup m = some (k, fr)) {c : Nat} {C : Addr} (hm : mcl m c = true) (hc : clsAt K c = some C) :
    m < 100 ∧ ∃ e, e ∈ t.mets ∧ t.met? c m = some e ∧ e.m = m ∧ c ∈ e.cs ∧ e.d.ps.length = k ∧ e.d.fr = fr ∧ mNm m ∉ fldN c := by
  obtain ⟨e, he, rfl, rfl, rfl⟩ := look_mf h
  have ok := S.ok
  unfold tabOk at ok
  rw [Bool.and_eq_true, List.all_eq_true, List.all_eq_true] at ok
  have ok2 := ok.2
  have := ok2 e he
  simp only [Bool.and_eq_true, decide_eq_true_eq, List.all_eq_true] at this
  obtain ⟨⟨h1, h2⟩, _⟩ := this
  have h4 := h2 c (S.cl c C hc)
  rw [hm] at h4
  refine ⟨h1, ?_⟩
  cases q : t.met? c e.m with
  | none => rw [q] at h4; cases h4
  | some e' =>
    rw [q] at h4
    simp only [Bool.not_true, Bool.false_or, Bool.and_eq_true, decide_eq_true_eq] at h4
    have q' := q
    unfold TabR.met? at q'
    have mem := List.mem_of_find?_eq_some q'
    have pr := List.find?_some q'
    simp only [Bool.and_eq_true, beq_iff_eq, List.contains_iff_mem] at pr
    have k3 := ok2 e' mem
    simp only [Bool.and_eq_true, decide_eq_true_eq, List.all_eq_true] at k3
    have k4 := k3.2 c pr.2
    rw [pr.1] at k4
    exact ⟨e', mem, rfl, pr.1, pr.2, h4.1, h4.2, k4⟩
theorem all_ok (bt : ∀ y ∈ o.bt, mg y = none) (cs : ∀ p ∈ o.cs, GcOk K mg p.1 p.2) (ex : ∀ (n : Nat) (y : Str), o.ex[n]? = some y → y ≠ "" → ExD K mg y (cls n)) (sb : ∀ p ∈ o.sb, SubD K mg (cls p.1) p.2.1 p.2.2) (ct : ∀ p ∈ o.ct, CatD K mg (cls p.1) p.2)
    (S : Stands K mg t o) : ∀ n, AllOk P w K mg base cls fu t n
  | 0 => by
    refine ⟨fun g y k fr h => ?_, fun m k fr h c C hm hc => ?_, fun c x k bo h => ?_⟩
    · obtain ⟨d, hd, _, _, rfl, rfl, rfl⟩ := look_fns h
      obtain ⟨st, _, p⟩ := S.df d hd
      obtain ⟨f, fd, F, h1, h2⟩ := p.ex
      exact ⟨f, fd, d.ps, fn_zero rfl, h1, F.kp, .all h2⟩
    · obtain ⟨_, e, he, _, rfl, hcs, rfl, rfl, hn⟩ := tab_m S h hm hc
      obtain ⟨st, _, p⟩ := S.mt e he
      obtain ⟨f, fd, F, h1, h2⟩ := p.ex
      exact ⟨f, fd, e.d.ps, fn_zero rfl, h2 c hcs C hc, .all h1, hn⟩
    · obtain ⟨e, he, _, hcs, rfl, rfl, rfl⟩ := look_mk h
      obtain ⟨st, hk, p⟩ := S.it e he
      obtain ⟨f, fd, F, h1, h2⟩ := p.ex
      obtain ⟨C, k1, k2, k3⟩ := h2 c hcs
      unfold chkI at hk
      simp only [Bool.and_eq_true, decide_eq_true_eq] at hk
      exact ⟨C, f, fd, e.ps, ini_zero (by omega), k1, k2, k3, .all h1, fun zs z q => by cases q⟩
  | n + 1 => by
    have ih := all_ok bt cs ex sb ct S n
    have fns : ∀ (A : Around), Room (2 * n + 1) A → ∀ g y k fr, (fnsOf t.defs).lookup g = some (y, k, fr) → FnD P w K mg base A cls (fnR t fu n g) y k fr := fun A hr g y k fr h => by
      obtain ⟨fa, fd, ps, k1, k2, k3, k4⟩ := ih.fns g y k fr h
      exact ⟨fa, fd, ps, _, k1, hr.mono (Nat.le_succ _), k2, k3, k4⟩
    have mts : ∀ (A : Around), Room (2 * n + 1) A → ∀ m k fr, (mfOf t.mets).lookup m = some (k, fr) → ∀ c C, mcl m c = true → clsAt K c = some C → MetD P w K mg base A cls (fnR t fu n (mid c m)) C c m k fr := fun A hr m k fr h c C hm hc => by
      obtain ⟨fa, fd, ps, k1, k2, k3, k4⟩ := ih.mts m k fr h c C hm hc
      exact ⟨⟨fa, fd, ps, _, k1, hr.mono (Nat.le_succ _), k2, k3⟩, k4⟩
    have mks : ∀ (A : Around), Room (2 * n + 1) A → ∀ c x k b, (mkOf t.inis).lookup c = some (x, k, b) → MkD P w K mg base A cls (fnR t fu n (iid c)) c x k b := fun A hr c x k b h => by
      obtain ⟨C, fa, fd, ps, k1, k2, k3, k4, k5, k6⟩ := ih.mks c x k b h
      exact ⟨⟨C, fa, fd, ps, _, k1, hr, k2, k3, k4, k5, k6⟩⟩
    have one : ∀ (d : DefM) (q : Str) {f : Addr} {fd : FuncData} {st : Stmt}, chk1 t o d st = true → Fun K d.nm q st f fd → FnOk P w K mg base (L2.CX P w) (2 * (n + 1)) f fd d.ps (spD K cls d.ps.length d.fr (runF (fnR t fu n) fu d.N.length d.fr d.body)) := fun d q {f fd st} hc F => by
      unfold chk1 at hc
      rw [Bool.and_eq_true, Bool.and_eq_true] at hc
      exact fn_def (C := cfgOf t o d (defScope st)) F (fsB_ok hc.1.1) rfl hc.1.2 hc.2 bt cs ex sb ct fns S.O mts mks
    refine ⟨fun g y k fr h => ?_, fun m k fr h c C hm hc => ?_, fun c x k bo h => ?_⟩
    · obtain ⟨d, hd, h2, rfl, rfl, rfl, rfl⟩ := look_fns h
      obtain ⟨st, hc, p⟩ := S.df d hd
      obtain ⟨f, fd, F, h3, h4⟩ := p.ex
      have lt : d.id < 90000 := by
        have ok := S.ok
        unfold tabOk at ok
        rw [Bool.and_eq_true, List.all_eq_true] at ok
        exact of_decide_eq_true (ok.1 d hd)
      refine ⟨f, fd, d.ps, ?_, h3, F.kp, .all h4⟩
      rw [fnR_s, get_def lt, show t.def? d.id = some d from h2]
      exact one d _ hc F
    · obtain ⟨lt, e, he, h2, rfl, hcs, rfl, rfl, hn⟩ := tab_m S h hm hc
      obtain ⟨st, hk, p⟩ := S.mt e he
      obtain ⟨f, fd, F, h3, h4⟩ := p.ex
      refine ⟨f, fd, e.d.ps, ?_, h4 c hcs C hc, .all h3, hn⟩
      rw [fnR_s, get_mid lt, h2]
      exact one e.d _ hk F
    · obtain ⟨e, he, h2, hcs, rfl, rfl, rfl⟩ := look_mk h
      obtain ⟨st, hk, p⟩ := S.it e he
      obtain ⟨f, fd, F, h3, h4⟩ := p.ex
      obtain ⟨C, k1, k2, k3⟩ := h4 c hcs
      unfold chkI at hk
      simp only [Bool.and_eq_true, decide_eq_true_eq, List.all_eq_true] at hk
      obtain ⟨⟨⟨⟨⟨m1, m2⟩, m3⟩, m3'⟩, m4⟩, m5⟩ := hk
      obtain ⟨m6, m7⟩ := m5 c hcs
      have hlent : e.lent = true → e.ps.length - 1 = 1 := fun q => by
        rw [q] at m3'
        have : e.ps.length = 2 := by simpa using m3'
        omega
      have eq : fnR t fu (n + 1) (iid c) = runI (fnR t fu n) c e.N.length e.ck e.sets := by
        rw [fnR_s, get_iid m7, show t.ini? c = some e from h2]; rfl
      refine ⟨C, f, fd, e.ps, ?_, k1, k2, k3, .all h3, fun zs z q => by rw [eq] at q; exact runI_obj q⟩
      rw [eq]
      exact fn_ini (C := cfgI t o e (defScope st)) F (fsB_ok m1) rfl m2 rfl hlent (by omega) m4 m6 k1 bt cs ex sb ct fns S.O mts mks
end
end Den
namespace Den
open PySem PySem.Spec PyProof.Rows L2
section
variable {K : PySem.W.Frag} {mg : Str → Option Value} {h : Heap}
theorem placed_mk (X : K.In h) (G : h.Ns mainGlobals mg) {d : DefM} {st : Stmt} (x : Str) (ps : List Str) (hx : d.nm = x) (hq : d.qn = x) (hps : d.ps = ps) {f : Addr} {od an : Option Addr} {sl : Array (Option Value)} {oc kV dc pm cd ct : Value}
    (a : PySem.W.nsIn K mainGlobals x = some (some (.ref f))) (l : K.lookup f = some ⟨oc, od, .func (PySem.W.fnOf x x (defArgs st) (defBody st) (defScope st) .none kV dc pm an cd ct), sl⟩) (c : PySem.W.codeIn K cd x = true) (k : PySem.W.keepIn K (.ref f) = true)
    (b : ∀ us : List Value, us.length = ps.length → bindArgs (PySem.W.fnOf x x (defArgs st) (defBody st) (defScope st) .none kV dc pm an cd ct) ⟨us, []⟩ = pure (ps.zip us)) : PlD K mg d st := by
  subst hx hps
  have F := fun_mk (st := st) l c k
  exact ⟨f, _, by rw [hq]; exact F, PySem.W.mg_of X G a, b⟩
theorem isBlt_ok {s : String} {o : Option (Option Value)} (h : isBlt s o = true) : o = some (some (.builtin s)) := by
  unfold isBlt at h
  split at h
  · rw [of_decide_eq_true h]
  · cases h
theorem isNo_ok {o : Option (Option Value)} (h : isNo o = true) : o = some none := by
  unfold isNo at h
  split at h
  · rfl
  · cases h
theorem clsAt_ns {K : PySem.W.Frag} {c : Nat} {C : Addr} (h : clsAt K c = some C) : PySem.W.nsIn K mainGlobals (clsNm c) = some (some (.ref C)) := by
  unfold clsAt at h
  split at h
  · rename_i D e; cases h; exact e
  · cases h
theorem clsAt_none {K : PySem.W.Frag} (a0 : PySem.W.nsIn K mainGlobals "" = some none) {c : Nat} (h : 18 ≤ c) : clsAt K c = none := by
  have : clsNm c = "" := by
    unfold clsNm
    split <;> first | omega | rfl
  unfold clsAt
  rw [this, a0]
theorem cls_mk {isc cls : List Nat} (X : K.In h) (G : h.Ns mainGlobals mg) (a0 : PySem.W.nsIn K mainGlobals "" = some none) (a1 : PySem.W.specialIn K (.builtin "object.__class__") "__get__" = some (some (.builtin "getset_descriptor.__get__"))) (a2 : PySem.W.takesIn K (.builtin "object.__class__") = some true)
    (m : clssB K isc cls = true) (mi : (isc.all fun y => (clsAt K y).isSome) = true) : (∀ c C, clsAt K c = some C → c ∈ cls) ∧ ObjsD K mg isc := by
  have key : ∀ c C, clsAt K c = some C → cls.contains c = true ∧ clsB K isc c C = true := fun c C hC => by
    by_cases hc : 18 ≤ c
    · rw [clsAt_none a0 hc] at hC; cases hC
    · unfold clssB at m
      rw [List.all_eq_true] at m
      have := m c (List.mem_range.mpr (by omega))
      rw [hC] at this
      exact Bool.and_eq_true_iff.mp this
  refine ⟨fun c C hC => List.contains_iff_mem.mp (key c C hC).1, ⟨fun c C hC => ?_, fun y hy => ?_⟩⟩
  · have := (key c C hC).2
    unfold clsB at this
    simp only [Bool.and_eq_true, List.all_eq_true, decide_eq_true_eq] at this
    obtain ⟨⟨⟨⟨⟨⟨⟨h1, h2⟩, h3⟩, h4⟩, h5⟩, h6⟩, h7⟩, _⟩ := this
    exact ⟨⟨h1, h2, h3, isBlt_ok h4⟩, fun f hf => isNo_ok (h7 f hf), isBlt_ok h5, a1, a2, h6⟩
  · rw [List.all_eq_true] at mi
    obtain ⟨Y, hY⟩ := Option.isSome_iff_exists.mp (mi y hy)
    refine ⟨Y, PySem.W.mg_of X G (clsAt_ns hY), fun c C hC => ?_⟩
    have := (key c C hC).2
    unfold clsB at this
    simp only [Bool.and_eq_true, List.all_eq_true, decide_eq_true_eq] at this
    have := this.2 y hy
    rw [hY] at this
    exact of_decide_eq_true this
theorem none_mk (X : K.In h) (G : h.Ns mainGlobals mg) {x : Str} (a : PySem.W.nsIn K mainGlobals x = some none) : mg x = none := PySem.W.mg_none_of X G a
end
/-- what isinstance, an except clause says of a class's exceptions, by name -/
structure SubN (K : PySem.W.Frag) (mg : Str → Option Value) (x y : Str) (b : Bool) : Prop where
  ex : ∃ D, mg x = some (.ref D) ∧ mg "" = none ∧ SubD K mg (.ref D) y b
structure CatN (K : PySem.W.Frag) (mg : Str → Option Value) (x y : Str) : Prop where
  ex : ∃ D, mg x = some (.ref D) ∧ mg "" = none ∧ CatD K mg (.ref D) y
/-- the classes of what is refused, as the top names them -/
def clsOf (mg : Str → Option Value) (t : Top) (n : Nat) : Value := match t.ex[n]? with
  | some y => (mg y).getD .none
  | none => .none
/-- the law's own promise -/
def spL (K : PySem.W.Frag) (g : List D → R D) : Sp := fun vs H Q _ => vs.length = 1 ∧ ∃ G ds z, Ok2 G H ∧ RpL K G vs ds ∧ g ds = .ok z ∧ ∀ v H' G', Stp G H G' H' → Rp K G' v z → Q v H'
theorem sp_law {K : PySem.W.Frag} {g : List D → R D} {H : Hp} {a : Addr} {ns : List Int} {E : XK} (hS : SqL K H a (ns.map V.int)) (h : g [.lst (ns.map .int)] = .ok (.bl true)) :
    spL K g [.ref a] H (fun v _ => v = .bl true) E :=
  ⟨rfl, H, [.lst (ns.map .int)], _, ⟨Same.refl _, fun b o e n => by rw [e] at n; cases n⟩, .cons (.lst hS (RpL.ofInts ns)) .nil, h, fun v H' G' t p => bl_inv p⟩
theorem law_fn {P : Program} {w : World} {K : PySem.W.Frag} {mg : Str → Option Value} {fu : Nat} {t : TabR} {o : Top} {f : Nat} {x : Str} {d : DefM} (n : Nat) (hd : t.defs.find? (fun d => d.id == f) = some d) (hx : d.ps = [x]) (hfr : d.fr = false)
    (bt : ∀ y ∈ o.bt, mg y = none) (cs : ∀ p ∈ o.cs, GcOk K mg p.1 p.2) (ex : ∀ y ∈ o.ex, y ≠ "" → ∃ v, ExD K mg y v) (sb : ∀ p ∈ o.sb, SubN K mg (o.ex.getD p.1 "") p.2.1 p.2.2) (ct : ∀ p ∈ o.ct, CatN K mg (o.ex.getD p.1 "") p.2) (S : Stands K mg t o) {fa : Addr} (hfa : mg d.nm = some (.ref fa)) :
    ∃ fd : FuncData, (∀ (s : Shared) (v : Value), BindsTo s fd ⟨[v], []⟩ [(x, v)]) ∧ ∀ base : Heap, K.In base → base.Ns mainGlobals mg → FnOk P w K mg base (L2.CX P w) (2 * (n + 1)) fa fd [x] (spL K (fnR t fu (n + 1) f)) := by
  have hmem := List.mem_of_find?_eq_some hd
  have hid : d.id = f := by simpa using List.find?_some hd
  obtain ⟨st, hc, p⟩ := S.df d hmem
  obtain ⟨fa', fd, F, hm, hb⟩ := p.ex
  rw [hfa] at hm
  cases hm
  refine ⟨fd, fun s v => ?_, fun base _ _ => ?_⟩
  · have := hb [v] (by rw [hx]; rfl)
    rw [hx] at this
    exact .of_eq this
  · have ex' : ∀ (n : Nat) (y : Str), o.ex[n]? = some y → y ≠ "" → ExD K mg y (clsOf mg o n) := fun n y e hy => by
      obtain ⟨v, hv⟩ := ex y (List.mem_of_getElem? e) hy
      obtain ⟨C, e1, e2, q⟩ := hv.ex
      refine ⟨C, ?_, e2, q⟩
      unfold clsOf
      rw [e]
      show (mg y).getD .none = _
      rw [e2]
      rfl
    have nm : ∀ {n : Nat} {D : Addr}, mg (o.ex.getD n "") = some (.ref D) → mg "" = none → clsOf mg o n = .ref D := fun {n D} e h0 => by
      unfold clsOf
      rw [List.getD_eq_getElem?_getD] at e
      cases q : o.ex[n]? with
      | none => rw [q] at e; rw [show (none : Option Str).getD "" = "" from rfl, h0] at e; cases e
      | some y =>
        rw [q] at e
        have e : mg y = some (.ref D) := e
        show (mg y).getD .none = _
        rw [e]
        rfl
    have sb' : ∀ p ∈ o.sb, SubD K mg (clsOf mg o p.1) p.2.1 p.2.2 := fun p hp => by
      obtain ⟨D, h1, h0, h2⟩ := (sb p hp).ex
      rw [nm h1 h0]
      exact h2
    have ct' : ∀ p ∈ o.ct, CatD K mg (clsOf mg o p.1) p.2 := fun p hp => by
      obtain ⟨D, h1, h0, h2⟩ := (ct p hp).ex
      rw [nm h1 h0]
      exact h2
    have A := all_ok (P := P) (w := w) (base := base) (fu := fu) bt cs ex' sb' ct' S n
    unfold chk1 at hc
    rw [Bool.and_eq_true, Bool.and_eq_true] at hc
    have lt : f < 90000 := by
      have ok := S.ok
      unfold tabOk at ok
      rw [Bool.and_eq_true, List.all_eq_true] at ok
      rw [← hid]
      exact of_decide_eq_true (ok.1 d hmem)
    have k := fn_def (P := P) (w := w) (base := base) (fu := fu) (fn := fnR t fu n) (k := 2 * n + 1) (C := cfgOf t o d (defScope st)) F (fsB_ok hc.1.1) rfl hc.1.2 hc.2 bt cs ex' sb' ct' (fun A' hr g y k fr h => by
      obtain ⟨fa, fd, ps, k1, k2, k3, k4⟩ := A.fns g y k fr h
      exact ⟨fa, fd, ps, _, k1, hr.mono (Nat.le_succ _), k2, k3, k4⟩) S.O (fun A' hr m k fr h c C hm hc => by
      obtain ⟨fa, fd, ps, k1, k2, k3, k4⟩ := A.mts m k fr h c C hm hc
      exact ⟨⟨fa, fd, ps, _, k1, hr.mono (Nat.le_succ _), k2, k3⟩, k4⟩) (fun A' hr c x k b h => by
      obtain ⟨C, fa, fd, ps, k1, k2, k3, k4, k5, k6⟩ := A.mks c x k b h
      exact ⟨⟨C, fa, fd, ps, _, k1, hr, k2, k3, k4, k5, k6⟩⟩)
    rw [hx] at k
    refine k.imp fun vs H Q E hs => ?_
    obtain ⟨hl, G, ds, z, ok, rp, hz, q⟩ := hs
    refine ⟨hl, G, ds, ok, rp, ?_⟩
    rw [fnR_s, get_def lt, show t.def? f = some d from hd] at hz
    have hz : runF (fnR t fu n) fu d.N.length d.fr d.body ds = .ok z := hz
    show match runF (fnR t fu n) fu d.N.length d.fr d.body ds with
      | .ok z => _
      | .exc c => _
      | .bad => False
    rw [hz]
    intro v H' G' t' p
    have p : PK (if d.fr then .T else .S) K G H G' H' v z := p
    rw [hfr] at p
    exact q v H' G' t' p
theorem cx_false {P : Program} {w : World} {outer : List PySem.Env} {H : Hp} {s s' : Shared} {e : Value} (h : L2.CX P w outer H s (fun _ _ _ => False) e s') : False := by
  obtain ⟨_, _, _, _, _, _, _, _, _, _, _, _, z⟩ := h
  exact z.elim
end Den
namespace Den
open PySem PySem.Spec PyProof.Rows L2
section
variable (fn : Nat → List D → R D) (fu : Nat) (ρ : Env)
@[simp] theorem ev_var (i) : ev fn (.var i) ρ = getV ρ i := rfl
@[simp] theorem ev_cst (d) : ev fn (.cst d) ρ = .ok d := rfl
@[simp] theorem ev_gint (x i) : ev fn (.gint x i) ρ = .ok (.int i) := rfl
@[simp] theorem ev_bin (o a b) : ev fn (.bin o a b) ρ = (ev fn a ρ).bind fun x => (ev fn b ρ).bind fun y => binD o x y := rfl
@[simp] theorem ev_neg (a) : ev fn (.neg a) ρ = (ev fn a ρ).bind fun x => (asInt x).bind fun i => .ok (.int (-i)) := rfl
@[simp] theorem ev_cmp (o a b) : ev fn (.cmp o a b) ρ = (ev fn a ρ).bind fun x => (ev fn b ρ).bind fun y => cmpD o x y := rfl
@[simp] theorem ev_isN (a) : ev fn (.isN a) ρ = (ev fn a ρ).bind fun x => .ok (.bl (isNon x)) := rfl
@[simp] theorem ev_notN (a) : ev fn (.notN a) ρ = (ev fn a ρ).bind fun x => .ok (.bl (!isNon x)) := rfl
@[simp] theorem ev_chain (o o' a b c) : ev fn (.chain o o' a b c) ρ = (ev fn a ρ).bind fun x => (ev fn b ρ).bind fun y => (cmpD o x y).bind fun t => (asBool t).bind fun k => if k then (ev fn c ρ).bind fun z => cmpD o' y z else .ok (.bl false) := rfl
@[simp] theorem ev_and (a b) : ev fn (.and_ a b) ρ = (ev fn a ρ).bind fun x => (asBool x).bind fun k => if k then (ev fn b ρ).bind fun y => (asBool y).bind fun k => .ok (.bl k) else .ok (.bl false) := rfl
@[simp] theorem ev_or (a b) : ev fn (.or_ a b) ρ = (ev fn a ρ).bind fun x => (asBool x).bind fun k => if k then .ok (.bl true) else (ev fn b ρ).bind fun y => (asBool y).bind fun k => .ok (.bl k) := rfl
@[simp] theorem ev_not (a) : ev fn (.not_ a) ρ = (ev fn a ρ).bind fun x => (asBool x).bind fun k => .ok (.bl (!k)) := rfl
@[simp] theorem ev_ite (c a b) : ev fn (.ite c a b) ρ = (ev fn c ρ).bind fun x => (asBool x).bind fun k => if k then ev fn a ρ else ev fn b ρ := rfl
@[simp] theorem ev_tup (es) : ev fn (.tup es) ρ = (evs fn es ρ).bind fun ds => .ok (.tup ds) := rfl
@[simp] theorem ev_lst (es) : ev fn (.lst es) ρ = (evs fn es ρ).bind fun ds => .ok (.lst ds) := rfl
@[simp] theorem ev_ix (a b) : ev fn (.ix a b) ρ = (ev fn a ρ).bind fun x => (ev fn b ρ).bind fun y => ixD x y := rfl
@[simp] theorem ev_slF (a b) : ev fn (.slF a b) ρ = (ev fn a ρ).bind fun x => (ev fn b ρ).bind fun y => (asInt y).bind fun i => slD x (some i) none := rfl
@[simp] theorem ev_slT (a b) : ev fn (.slT a b) ρ = (ev fn a ρ).bind fun x => (ev fn b ρ).bind fun y => (asInt y).bind fun i => slD x none (some i) := rfl
@[simp] theorem ev_slB (a b c) : ev fn (.slB a b c) ρ = (ev fn a ρ).bind fun x => (ev fn b ρ).bind fun y => (asInt y).bind fun i => (ev fn c ρ).bind fun z => (asInt z).bind fun j => slD x (some i) (some j) := rfl
@[simp] theorem ev_call (f es) : ev fn (.call f es) ρ = (evs fn es ρ).bind fun ds => fn f ds := rfl
@[simp] theorem ev_callB (f es) : ev fn (.callB f es) ρ = (evs fn es ρ).bind fun ds => (fn f ds).bind fun z => .guard z.flat (.ok z) := rfl
@[simp] theorem ev_bi (b es) : ev fn (.bi b es) ρ = (evs fn es ρ).bind fun ds => biD b ds := rfl
@[simp] theorem ev_isi (a t) : ev fn (.isi a t) ρ = (ev fn a ρ).bind fun x => (isiD t x).bind fun b => .ok (.bl b) := rfl
@[simp] theorem ev_sset (a) : ev fn (.sset a) ρ = (ev fn a ρ).bind fun x => (itemsL x).bind ssD := rfl
@[simp] theorem ev_lset (a) : ev fn (.lset a) ρ = (ev fn a ρ).bind fun x => (itemsL x).bind lenSetD := rfl
@[simp] theorem ssD_ints (is : List Int) : ssD (is.map .int) = .guard (decide (is.length < 4095)) (.ok (.lst ((sortU is).map .int))) := by unfold ssD; rw [dInts_of]
@[simp] theorem ssD_nil : ssD [] = .ok (.lst []) := rfl
@[simp] theorem ev_slO (a b) : ev fn (.slO a b) ρ = (ev fn a ρ).bind fun x => (ev fn b ρ).bind fun y => (asInt y).bind fun i => (itemsL x).bind fun xs => .ok (.lst (cutL xs none (some i))) := rfl
@[simp] theorem ev_dlitO (k v) : ev fn (.dlitO k v) ρ = (ev fn k ρ).bind fun x => (ev fn v ρ).bind fun y => dlO x y := rfl
@[simp] theorem ev_pickL (rs i) : ev fn (.pickL rs i) ρ = (evs fn rs ρ).bind fun ds => (ev fn i ρ).bind fun y => ixD (.lst ds) y := rfl
@[simp] theorem ev_deq (a b) : ev fn (.deq a b) ρ = (ev fn a ρ).bind fun x => (ev fn b ρ).bind fun y => deqD x y := rfl
@[simp] theorem ev_makeB (c i) : ev fn (.makeB c i) ρ = (getV ρ i).bind fun d => fn (iid c) [d] := rfl
@[simp] theorem ev_lzip (es) : ev fn (.lzip es) ρ = (evs fn es ρ).bind fun ds => zip4D ds := rfl
@[simp] theorem ev_lrng (a b) : ev fn (.lrng a b) ρ = (ev fn a ρ).bind fun x => (ev fn b ρ).bind fun y => (asInt x).bind fun i => (asInt y).bind fun j => .guard (decide ((j - i).toNat ≤ Line)) (.ok (.lst (upto i (j - i).toNat))) := rfl
@[simp] theorem ev_lrev (a) : ev fn (.lrev a) ρ = (ev fn a ρ).bind fun x => (itemsL x).bind fun xs => .ok (.lst xs.reverse) := rfl
@[simp] theorem ev_dmin (mx a) : ev fn (.dmin mx a) ρ = (ev fn a ρ).bind fun x => (itemsL x).bind fun xs => (someR (dInts xs)).bind fun is => .ok (dmD mx is) := rfl
@[simp] theorem ev_cat (a b) : ev fn (.cat a b) ρ = (ev fn a ρ).bind fun x => (ev fn b ρ).bind fun y => catD x y := rfl
@[simp] theorem ev_call0 (f) : ev fn (.call0 f) ρ = fn f [] := rfl
@[simp] theorem ev_fld (a f) : ev fn (.fld a f) ρ = (ev fn a ρ).bind fun x => fldD x f := rfl
@[simp] theorem ev_meth (b m a es) : ev fn (.meth b m a es) ρ = (ev fn a ρ).bind fun x => (objC x).bind fun c => .guard (mcl m c) <| (evs fn es ρ).bind fun ys => if b then (fn (mid c m) (x :: ys)).bind fun z => .guard z.flat (.ok z) else fn (mid c m) (x :: ys) := rfl
@[simp] theorem ev_make (c es) : ev fn (.make c es) ρ = (evs fn es ρ).bind fun ys => fn (iid c) ys := rfl
@[simp] theorem ev_isc (a k) : ev fn (.isc a k) ρ = (ev fn a ρ).bind fun x => (objC x).bind fun c => .ok (.bl (subC c k)) := rfl
@[simp] theorem ev_dcp (a) : ev fn (.dcp a) ρ = (ev fn a ρ).bind fun x => asDct' x := rfl
@[simp] theorem objC_obj (c fs) : objC (.obj c fs) = .ok c := rfl
@[simp] theorem evs_nil : evs fn .nil ρ = .ok [] := rfl
@[simp] theorem evs_cons (a r) : evs fn (.cons a r) ρ = (ev fn a ρ).bind fun x => (evs fn r ρ).bind fun xs => .ok (x :: xs) := rfl
@[simp] theorem evi_seq (a) : evi fn (.seq a) ρ = (ev fn a ρ).bind itemsS := rfl
@[simp] theorem ev_gstr (x s) : ev fn (.gstr x s) ρ = .ok (.str s) := rfl
@[simp] theorem ev_gwds (x ws) : ev fn (.gwds x ws) ρ = .ok (.tup (ws.map .str)) := rfl
@[simp] theorem evi_rng1 (a) : evi fn (.rng1 a) ρ = (ev fn a ρ).bind fun x => (asInt x).bind fun j => .ok (upto 0 j.toNat) := rfl
@[simp] theorem evi_rng2 (a b) : evi fn (.rng2 a b) ρ = (ev fn a ρ).bind fun x => (ev fn b ρ).bind fun y => (asInt x).bind fun i => (asInt y).bind fun j => .ok (upto i (j - i).toNat) := rfl
@[simp] theorem evi_enum (a) : evi fn (.enum a) ρ = (ev fn a ρ).bind fun x => (items x).bind fun xs => .ok (enumL 0 xs) := rfl
@[simp] theorem evi_zip (a b) : evi fn (.zip a b) ρ = (ev fn a ρ).bind fun x => (ev fn b ρ).bind fun y => zipD x y := rfl
@[simp] theorem evi_rev (a) : evi fn (.rev a) ρ = (ev fn a ρ).bind fun x => (items x).bind fun xs => .ok xs.reverse := rfl
@[simp] theorem evC_set (i e) : evC fn fu (.set i e) ρ = thenO (ev fn e ρ) ρ fun z => .nx (setV ρ i z) := rfl
@[simp] theorem evC_own (i e) : evC fn fu (.own i e) ρ = thenO (ev fn e ρ) ρ fun z => .nx (setV ρ i z) := rfl
@[simp] theorem evC_tgt (is e) : evC fn fu (.tgt is e) ρ = thenO (ev fn e ρ) ρ fun z => thenO (bindT ρ (.many is) z) ρ fun ρ' => .nx ρ' := rfl
@[simp] theorem evC_mov (i j) : evC fn fu (.mov i j) ρ = thenO (getV ρ j) ρ fun z => .nx (setV (ρ.set j none) i z) := rfl
@[simp] theorem evC_aug (i b e) : evC fn fu (.aug i b e) ρ = thenO (getV ρ i) ρ fun x => thenO (ev fn e ρ) ρ fun y => thenO ((asInt x).bind fun a => (asInt y).bind fun c => .ok (D.int (if b then a - c else a + c))) ρ fun z => .nx (setV ρ i z) := rfl
@[simp] theorem evC_setIx (i k e) : evC fn fu (.setIx i k e) ρ = thenO (ev fn e ρ) ρ fun z => thenO (lstV ρ i) ρ fun ds => thenO (ev fn k ρ) ρ fun y => thenO ((asInt y).bind fun j => someR (ixN ds.length j)) ρ fun j => .nx (setV ρ i (.lst (ds.set j z))) := rfl
@[simp] theorem evC_app (i e) : evC fn fu (.app i e) ρ = thenO (lstV ρ i) ρ fun ds => thenO (ev fn e ρ) ρ fun z => if ds.length < Line then .nx (setV ρ i (.lst (ds ++ [z]))) else .bad := rfl
@[simp] theorem evC_appC (i u bs) : evC fn fu (.appC i u bs) ρ = thenO (lstV ρ i) ρ fun ds => thenO (someR (ds[ds.length - 1]?)) ρ fun z => thenO (evs fn bs (setV ρ i (.lst ds.dropLast))) (setV ρ i (.lst ds.dropLast)) fun ys => thenO (fn u (z :: ys)) (setV ρ i (.lst ds.dropLast)) fun r => if ds.dropLast.length < Line then .nx (setV (setV ρ i (.lst ds.dropLast)) i (.lst (ds.dropLast ++ [r]))) else .bad := rfl
@[simp] theorem evC_appT (i a bs) : evC fn fu (.appT i a bs) ρ = thenO (lstV ρ i) ρ fun ds => thenO (ev fn a ρ) ρ fun x => thenO (someR (ds[ds.length - 1]?)) ρ fun z => thenO (evs fn bs (setV ρ i (.lst ds.dropLast))) (setV ρ i (.lst ds.dropLast)) fun ys => if ds.dropLast.length < Line then .nx (setV (setV ρ i (.lst ds.dropLast)) i (.lst (ds.dropLast ++ [.tup (x :: z :: ys)]))) else .bad := rfl
@[simp] theorem evC_appM (i j) : evC fn fu (.appM i j) ρ = thenO (lstV ρ i) ρ fun ds => thenO (getV ρ j) ρ fun z => if ds.length < Line then .nx (setV (ρ.set j none) i (.lst (ds ++ [z]))) else .bad := rfl
@[simp] theorem evC_ext (i e) : evC fn fu (.ext i e) ρ = thenO (lstV ρ i) ρ fun ds => thenO (ev fn e ρ) ρ fun z => thenO (itemsL z) ρ fun es => if ds.length + es.length ≤ Line then .nx (setV ρ i (.lst (ds ++ es))) else .bad := rfl
@[simp] theorem evC_pop (i j) : evC fn fu (.pop j i) ρ = thenO (lstV ρ i) ρ fun ds => thenO (someR (ds[ds.length - 1]?)) ρ fun z => .nx (setV (setV ρ i (.lst ds.dropLast)) j z) := rfl
@[simp] theorem evC_clear (i) : evC fn fu (.clear i) ρ = thenO (lstV ρ i) ρ fun _ => .nx (setV ρ i (.lst [])) := rfl
@[simp] theorem evC_rvs (i) : evC fn fu (.rvs i) ρ = thenO (lstV ρ i) ρ fun ds => .nx (setV ρ i (.lst ds.reverse)) := rfl
@[simp] theorem evC_expr (e) : evC fn fu (.expr e) ρ = thenO (ev fn e ρ) ρ fun _ => .nx ρ := rfl
@[simp] theorem evC_ret (e) : evC fn fu (.ret e) ρ = thenO (ev fn e ρ) ρ fun z => .ret z := rfl
@[simp] theorem evC_retM (i) : evC fn fu (.retM i) ρ = thenO (getV ρ i) ρ fun z => .ret z := rfl
@[simp] theorem evC_retN : evC fn fu .retN ρ = .ret .non := rfl
@[simp] theorem evC_if (c a b) : evC fn fu (.if_ c a b) ρ = thenO ((ev fn c ρ).bind asBool) ρ fun k => if k then evCs fn fu a ρ else evCs fn fu b ρ := rfl
theorem evC_for (it tg body) : evC fn fu (.for_ it tg body) ρ = thenO (evi fn it ρ) ρ fun xs => forL (fun ρ x => thenO (bindT ρ tg x) ρ fun ρ' => evCs fn fu body ρ') xs ρ := rfl
@[simp] theorem evC_pass : evC fn fu .pass ρ = .nx ρ := rfl
@[simp] theorem evC_brk : evC fn fu .brk ρ = .brk ρ := rfl
@[simp] theorem evC_cont : evC fn fu .cont ρ = .cont ρ := rfl
@[simp] theorem evC_kill (is) : evC fn fu (.kill is) ρ = .nx (wipeE ρ is) := rfl
@[simp] theorem evC_dput (i k e) : evC fn fu (.dput i k e) ρ = thenO (ev fn e ρ) ρ fun z => thenO (dctV ρ i) ρ fun p => thenO (ev fn k ρ) ρ fun y => thenO (someR (keyD y)) ρ fun k => if p.1.length < Line then .nx (setV ρ i (.dct false (puK p.1 k) (puV p.1 p.2 k z))) else .bad := rfl
@[simp] theorem evC_dputT (i k e) : evC fn fu (.dputT i k e) ρ = thenO (ev fn e ρ) ρ fun z => thenO (dcTV ρ i) ρ fun p => thenO (evs fn k ρ) ρ fun ys => thenO (someR (keysD ys)) ρ fun k => if p.1.length < Line then .nx (setV ρ i (.dcT (puK p.1 k) (puV p.1 p.2 k z))) else .bad := rfl
@[simp] theorem evC_movD (i j) : evC fn fu (.movD i j) ρ = thenO (dctV ρ j) ρ fun p => .nx (setV (ρ.set j none) i (.dct true p.1 p.2)) := rfl
@[simp] theorem ev_dnew (t) : ev fn (.dnew t) ρ = .ok (if t then .dcT [] [] else .dct false [] []) := rfl
@[simp] theorem ev_repL (es n) : ev fn (.repL es n) ρ = (evs fn es ρ).bind fun ds => .guard (decide (n ≤ 1000 ∧ ds.length * n ≤ Line)) (.ok (.lst (List.replicate n ds).flatten)) := rfl
@[simp] theorem ev_dlit (k v) : ev fn (.dlit k v) ρ = (ev fn k ρ).bind fun x => (ev fn v ρ).bind fun y => dlD x y := rfl
@[simp] theorem ev_tm (m a b) : ev fn (.tm m a b) ρ = (ev fn a ρ).bind fun x => (asStr x).bind fun s => (ev fn b ρ).bind fun y => tmD m s y := rfl
@[simp] theorem ev_dget1 (i k) : ev fn (.dget1 i k) ρ = (getV ρ i).bind fun x => (asDct x).bind fun x => (ev fn k ρ).bind fun y => dgD x y .non := rfl
@[simp] theorem ev_dget2 (i k z) : ev fn (.dget2 i k z) ρ = (getV ρ i).bind fun x => (asDct x).bind fun x => (ev fn k ρ).bind fun y => (ev fn z ρ).bind fun w => dgD x y w := rfl
@[simp] theorem evi_its (i) : evi fn (.its i) ρ = (getV ρ i).bind itemsD := rfl
@[simp] theorem evC_raise (c) : evC fn fu (.raise c) ρ = .exc c ρ := rfl
@[simp] theorem evHs_cons (k h r n) : evHs fn fu (.cons k h r) n ρ = if n = k then noxO (evCs fn fu h ρ) else evHs fn fu r n ρ := rfl
@[simp] theorem evHs_nil (n) : evHs fn fu .nil n ρ = .bad := rfl
@[simp] theorem evCs_nil : evCs fn fu .nil ρ = .nx ρ := rfl
@[simp] theorem evCs_cons (c r) : evCs fn fu (.cons c r) ρ = seqO (evC fn fu c ρ) fun ρ' => evCs fn fu r ρ' := rfl
end
@[simp] theorem thenO_ok {α : Type} (z : α) (ρ : Env) (f : α → O) : thenO (.ok z) ρ f = f z := rfl
@[simp] theorem thenO_exc {α : Type} (c : Nat) (ρ : Env) (f : α → O) : thenO (.exc c : R α) ρ f = .exc c ρ := rfl
@[simp] theorem thenO_bad {α : Type} (ρ : Env) (f : α → O) : thenO (.bad : R α) ρ f = .bad := rfl
@[simp] theorem seqO_nx (ρ : Env) (f : Env → O) : seqO (.nx ρ) f = f ρ := rfl
@[simp] theorem seqO_brk (ρ : Env) (f : Env → O) : seqO (.brk ρ) f = .brk ρ := rfl
@[simp] theorem seqO_cont (ρ : Env) (f : Env → O) : seqO (.cont ρ) f = .cont ρ := rfl
@[simp] theorem seqO_ret (z : D) (f : Env → O) : seqO (.ret z) f = .ret z := rfl
@[simp] theorem seqO_exc (c : Nat) (ρ : Env) (f : Env → O) : seqO (.exc c ρ) f = .exc c ρ := rfl
@[simp] theorem wipeO_ret (i : Nat) (z : D) : wipeO i (.ret z) = .ret z := rfl
@[simp] theorem wipeO_nx (i : Nat) (ρ : Env) : wipeO i (.nx ρ) = .nx (ρ.set i none) := rfl
@[simp] theorem wipeO_exc (i c : Nat) (ρ : Env) : wipeO i (.exc c ρ) = .exc c (ρ.set i none) := rfl
@[simp] theorem wipeE_nil (ρ : Env) : wipeE ρ [] = ρ := rfl
@[simp] theorem wipeE_cons (ρ : Env) (v : Nat) (vs : List Nat) : wipeE ρ (v :: vs) = (wipeE ρ vs).set v none := rfl
@[simp] theorem getV_0 (d : D) (ρ : Env) : getV (some d :: ρ) 0 = .ok d := rfl
@[simp] theorem getV_s (o : Option D) (ρ : Env) (i : Nat) : getV (o :: ρ) (i + 1) = getV ρ i := rfl
@[simp] theorem lstV_0 (d : List D) (ρ : Env) : lstV (some (.lst d) :: ρ) 0 = .ok d := rfl
@[simp] theorem lstV_s (o : Option D) (ρ : Env) (i : Nat) : lstV (o :: ρ) (i + 1) = lstV ρ i := rfl
@[simp] theorem setV_0 (o : Option D) (ρ : Env) (d : D) : setV (o :: ρ) 0 d = some d :: ρ := rfl
@[simp] theorem setV_s (o : Option D) (ρ : Env) (i : Nat) (d : D) : setV (o :: ρ) (i + 1) d = o :: setV ρ i d := rfl
@[simp] theorem cmp_ltP (a b c d : Int) : cmpD .lt (.tup [.int a, .int b]) (.tup [.int c, .int d]) = .ok (.bl (decide (a < c ∨ (a = c ∧ b < d)))) := rfl
@[simp] theorem bin_add (i j : Int) : binD .add (.int i) (.int j) = .ok (.int (i + j)) := rfl
@[simp] theorem bin_sub (i j : Int) : binD .sub (.int i) (.int j) = .ok (.int (i - j)) := rfl
@[simp] theorem bin_mul (i j : Int) : binD .mul (.int i) (.int j) = .guard (mulOk i j) (.ok (.int (i * j))) := rfl
@[simp] theorem bin_fdiv (i j : Int) : binD .fdiv (.int i) (.int j) = .guard (divOk j) (.ok (.int (i.fdiv j))) := rfl
@[simp] theorem bin_mod (i j : Int) : binD .mod (.int i) (.int j) = .guard (decide (j ≠ 0)) (.ok (.int (i.fmod j))) := rfl
@[simp] theorem bin_pow (i j : Int) : binD .pow (.int i) (.int j) = .guard (powOk i j) (.ok (.int (i ^ j.toNat))) := rfl
@[simp] theorem bin_addL (x y : List D) : binD .add (.lst x) (.lst y) = .guard (decide (x.length + y.length ≤ Line)) (.ok (.lst (x ++ y))) := rfl
@[simp] theorem bin_addT (x y : List D) : binD .add (.tup x) (.tup y) = .guard (decide (x.length + y.length ≤ Line)) (.ok (.tup (x ++ y))) := rfl
@[simp] theorem cmp_lt (i j : Int) : cmpD .lt (.int i) (.int j) = .ok (.bl (decide (i < j))) := rfl
@[simp] theorem cmp_le (i j : Int) : cmpD .le (.int i) (.int j) = .ok (.bl (decide (i ≤ j))) := rfl
@[simp] theorem cmp_gt (i j : Int) : cmpD .gt (.int i) (.int j) = .ok (.bl (decide (j < i))) := rfl
@[simp] theorem cmp_ge (i j : Int) : cmpD .ge (.int i) (.int j) = .ok (.bl (decide (j ≤ i))) := rfl
theorem cmp_eq (x y : D) : cmpD .eq x y = (eqD x y).bind fun b => .ok (.bl b) := by cases x <;> rfl
theorem cmp_ne (x y : D) : cmpD .ne x y = (eqD x y).bind fun b => .ok (.bl (!b)) := by cases x <;> rfl
@[simp] theorem cmp_eqI (i j : Int) : cmpD .eq (.int i) (.int j) = .ok (.bl (decide (i = j))) := by
  rw [cmp_eq]
  have : eqD (.int i) (.int j) = .ok (decide (i = j)) := by
    unfold eqD eqOk
    simp only [D.py, PyData.plain, PyData.depth, PyData.eqv]
    show R.ok (i == j) = _
    rw [Bool.beq_eq_decide_eq]
  rw [this]; rfl
@[simp] theorem cmp_neI (i j : Int) : cmpD .ne (.int i) (.int j) = .ok (.bl (!decide (i = j))) := by
  rw [cmp_ne]
  have : eqD (.int i) (.int j) = .ok (decide (i = j)) := by
    unfold eqD eqOk
    simp only [D.py, PyData.plain, PyData.depth, PyData.eqv]
    show R.ok (i == j) = _
    rw [Bool.beq_eq_decide_eq]
  rw [this]; rfl
@[simp] theorem cmp_neB (i j : Bool) : cmpD .ne (.bl i) (.bl j) = .ok (.bl (!decide (i = j))) := by
  cases i <;> cases j <;> rfl
@[simp] theorem cmp_eqB (i j : Bool) : cmpD .eq (.bl i) (.bl j) = .ok (.bl (decide (i = j))) := by
  cases i <;> cases j <;> rfl
@[simp] theorem dctV_0 (ks : List Key) (d : List D) (ρ : Env) : dctV (some (.dct false ks d) :: ρ) 0 = .ok (ks, d) := rfl
@[simp] theorem dctV_s (o : Option D) (ρ : Env) (i : Nat) : dctV (o :: ρ) (i + 1) = dctV ρ i := rfl
@[simp] theorem dcTV_0 (ks : List (List Key)) (d : List D) (ρ : Env) : dcTV (some (.dcT ks d) :: ρ) 0 = .ok (ks, d) := rfl
@[simp] theorem dcTV_s (o : Option D) (ρ : Env) (i : Nat) : dcTV (o :: ρ) (i + 1) = dcTV ρ i := rfl
@[simp] theorem asDct_dct (f : Bool) (ks : List Key) (d : List D) : asDct (.dct f ks d) = .ok (.dct f ks d) := rfl
@[simp] theorem itemsD_dct (ks : List Key) (d : List D) : itemsD (.dct true ks d) = .ok (pairL ks d) := rfl
@[simp] theorem keyD_int (i : Int) : keyD (.int i) = some (.inl i) := rfl
@[simp] theorem dlD_int (i : Int) (y : D) : dlD (.int i) y = .ok (.dct true [.inl i] [y]) := rfl
@[simp] theorem dgD_int (f : Bool) (ks : List Key) (d : List D) (i : Int) (z : D) : dgD (.dct f ks d) (.int i) z = .ok ((lkD ks d (.inl i)).getD z) := rfl
@[simp] theorem ix_dct_int (f : Bool) (ks : List Key) (d : List D) (i : Int) : ixD (.dct f ks d) (.int i) = (match lkD ks d (.inl i) with | some z => .ok z | none => .bad) := rfl
@[simp] theorem in_dct (f : Bool) (ks : List Key) (d : List D) (i : Int) : cmpD .in_ (.int i) (.dct f ks d) = .ok (.bl (lkD ks d (.inl i)).isSome) := rfl
@[simp] theorem notin_dct (f : Bool) (ks : List Key) (d : List D) (i : Int) : cmpD .notin (.int i) (.dct f ks d) = .ok (.bl (!(lkD ks d (.inl i)).isSome)) := rfl
@[simp] theorem asStr_str (s : Str) : asStr (.str s) = .ok s := rfl
@[simp] theorem asBool_bl (b : Bool) : asBool (.bl b) = .ok b := rfl
@[simp] theorem asInt_int (b : Int) : asInt (.int b) = .ok b := rfl
@[simp] theorem itemsS_lst (xs : List D) : itemsS (.lst xs) = .ok xs := rfl
@[simp] theorem itemsS_tup (xs : List D) : itemsS (.tup xs) = .ok xs := rfl
@[simp] theorem itemsS_str (z : Str) : itemsS (.str z) = .ok (signsD z) := rfl
@[simp] theorem items_lst (xs : List D) : items (.lst xs) = .ok xs := rfl
@[simp] theorem items_tup (xs : List D) : items (.tup xs) = .ok xs := rfl
@[simp] theorem itemsL_lst (xs : List D) : itemsL (.lst xs) = .ok xs := rfl
@[simp] theorem someR_some {α : Type} (a : α) : someR (some a) = .ok a := rfl
@[simp] theorem isNon_non : isNon .non = true := rfl
@[simp] theorem isNon_int (i : Int) : isNon (.int i) = false := rfl
@[simp] theorem isNon_tup (i : List D) : isNon (.tup i) = false := rfl
@[simp] theorem isNon_lst (i : List D) : isNon (.lst i) = false := rfl
@[simp] theorem isi_int_int (i : Int) : isiD .int (.int i) = .ok true := rfl
@[simp] theorem isi_bool_int (i : Int) : isiD .bool (.int i) = .ok false := rfl
@[simp] theorem isi_tuple_tup (i : List D) : isiD .tuple (.tup i) = .ok true := rfl
@[simp] theorem isi_list_lst (i : List D) : isiD .list (.lst i) = .ok true := rfl
@[simp] theorem bi_len_lst (xs : List D) : biD .len [.lst xs] = .ok (.int xs.length) := rfl
@[simp] theorem bi_len_tup (xs : List D) : biD .len [.tup xs] = .ok (.int xs.length) := rfl
@[simp] theorem bi_list_lst (xs : List D) : biD .list [.lst xs] = .ok (.lst xs) := rfl
@[simp] theorem bi_list_tup (xs : List D) : biD .list [.tup xs] = .ok (.lst xs) := rfl
@[simp] theorem bi_tuple_lst (xs : List D) : biD .tuple [.lst xs] = .ok (.tup xs) := rfl
@[simp] theorem bi_tuple_tup (xs : List D) : biD .tuple [.tup xs] = .ok (.tup xs) := rfl
@[simp] theorem bi_min2 (i j : Int) : biD .min2 [.int i, .int j] = .ok (.int (min i j)) := by
  show R.ok (D.int (if j < i then j else i)) = _
  congr 2; omega
@[simp] theorem bi_max2 (i j : Int) : biD .max2 [.int i, .int j] = .ok (.int (max i j)) := by
  show R.ok (D.int (if j > i then j else i)) = _
  congr 2; omega
/-- a tree of tests is pushed through what follows -/
@[simp] theorem bind_ite {α β : Type} (c : Prop) [Decidable c] (a b : R α) (f : α → R β) : (if c then a else b).bind f = if c then a.bind f else b.bind f := by split <;> rfl
@[simp] theorem thenO_ite {α : Type} (c : Prop) [Decidable c] (a b : R α) (ρ : Env) (f : α → O) : thenO (if c then a else b) ρ f = if c then thenO a ρ f else thenO b ρ f := by split <;> rfl
@[simp] theorem seqO_ite (c : Prop) [Decidable c] (a b : O) (f : Env → O) : seqO (if c then a else b) f = if c then seqO a f else seqO b f := by split <;> rfl
/-- the outcome of a def -/
def outO (fr : Bool) : O → R D
  | .ret z => .ok z
  | .nx _ => if fr then .bad else .ok .non
  | .exc c _ => .exc c
  | _ => .bad
theorem runF_eq (fn : Nat → List D → R D) (fu n : Nat) (fr : Bool) (body : Cmds) (zs : List D) : runF fn fu n fr body zs = outO fr (evCs fn fu body (initE n zs)) := by
  unfold runF outO
  cases evCs fn fu body (initE n zs) <;> rfl
@[simp] theorem out_ret (fr : Bool) (z : D) : outO fr (.ret z) = .ok z := rfl
@[simp] theorem out_exc (fr : Bool) (c : Nat) (ρ : Env) : outO fr (.exc c ρ) = .exc c := rfl
@[simp] theorem out_nx (ρ : Env) : outO false (.nx ρ) = .ok .non := rfl
@[simp] theorem out_ite (fr : Bool) (c : Prop) [Decidable c] (a b : O) : outO fr (if c then a else b) = if c then outO fr a else outO fr b := by split <;> rfl
theorem mulOk_of {i j : Int} (n m : Nat) (hi : i.natAbs < 2 ^ n) (hj : j.natAbs < 2 ^ m) (h : n + m ≤ 100000000 := by decide) : mulOk i j = true := by
  unfold mulOk
  rw [decide_eq_true_eq]
  have log : ∀ (k : Int) (a : Nat), k.natAbs < 2 ^ a → k.natAbs.log2 < a ∨ (k.natAbs.log2 = 0 ∧ a = 0) := fun k a hk => by
    by_cases h0 : k.natAbs = 0
    · rw [h0]
      cases a with
      | zero => exact .inr ⟨by decide, rfl⟩
      | succ a => exact .inl (by rw [show Nat.log2 0 = 0 by decide]; omega)
    · exact .inl ((Nat.log2_lt h0).mpr hk)
  rcases log i n hi with a | a <;> rcases log j m hj with b | b <;> omega
theorem divOk_of {j : Int} (h0 : j ≠ 0) (hj : j.natAbs < 2 ^ 8999) : divOk j = true := by
  unfold divOk
  rw [Bool.and_eq_true, decide_eq_true_eq, decide_eq_true_eq]
  refine ⟨h0, ?_⟩
  have : j.natAbs.log2 < 8999 := (Nat.log2_lt (by omega)).mpr hj
  omega
end Den
namespace Den
open PySem PySem.Spec PyProof.Rows L2
@[simp] theorem forL_nil (f : Env → D → O) (ρ : Env) : forL f [] ρ = .nx ρ := rfl
theorem forL_nx {f : Env → D → O} {x : D} {r : List D} {ρ ρ' : Env} (h : f ρ x = .nx ρ') : forL f (x :: r) ρ = forL f r ρ' := by rw [forL, h]
theorem upto_eq (lo : Int) (n : Nat) : upto lo n = (List.range n).map fun i => D.int (lo + (i : Nat)) := by
  induction n generalizing lo with
  | zero => rfl
  | succ n ih =>
    rw [upto, ih, List.range_succ_eq_map, List.map_cons, List.map_map]
    congr 1
    · simp
    · apply List.map_congr_left
      intro i _
      simp only [Function.comp]
      congr 1
      omega
theorem ixN_of {n : Nat} {i : Int} (h0 : 0 ≤ i) (h : i < n) : ixN n i = some i.toNat := by rw [ixN, if_pos h0, if_pos h]
/-- the part at a place -/
theorem ix_lst {xs : List D} {i : Int} {x : D} (h0 : 0 ≤ i) (h : xs[i.toNat]? = some x) : ixD (.lst xs) (.int i) = .ok x := by
  have := List.getElem?_eq_some_iff.mp h
  obtain ⟨k, _⟩ := this
  unfold ixD atI
  simp only
  rw [ixN_of h0 (by omega)]
  simp only [Option.bind_some, h]
theorem ix_tup {xs : List D} {i : Int} {x : D} (h0 : 0 ≤ i) (h : xs[i.toNat]? = some x) : ixD (.tup xs) (.int i) = .ok x := by
  have := List.getElem?_eq_some_iff.mp h
  obtain ⟨k, _⟩ := this
  unfold ixD atI
  simp only
  rw [ixN_of h0 (by omega)]
  simp only [Option.bind_some, h]
@[simp] theorem ix_tup0 (x : D) (r : List D) : ixD (.tup (x :: r)) (.int 0) = .ok x := ix_tup (by omega) rfl
@[simp] theorem ix_tup1 (y x : D) (r : List D) : ixD (.tup (y :: x :: r)) (.int 1) = .ok x := ix_tup (by omega) rfl
@[simp] theorem ix_tup2 (z y x : D) (r : List D) : ixD (.tup (z :: y :: x :: r)) (.int 2) = .ok x := ix_tup (by omega) rfl
@[simp] theorem ix_tup3 (w z y x : D) (r : List D) : ixD (.tup (w :: z :: y :: x :: r)) (.int 3) = .ok x := ix_tup (by omega) rfl
@[simp] theorem ix_lst0 (x : D) (r : List D) : ixD (.lst (x :: r)) (.int 0) = .ok x := ix_lst (by omega) rfl
@[simp] theorem ix_lst1 (y x : D) (r : List D) : ixD (.lst (y :: x :: r)) (.int 1) = .ok x := ix_lst (by omega) rfl
@[simp] theorem small62_nat {n : Nat} (h : n ≤ Line) : small62 n = true := by
  unfold small62
  have : (n : Int) ≤ 16777216 := by have : n ≤ 16777216 := h; omega
  rw [Bool.and_eq_true, decide_eq_true_eq, decide_eq_true_eq]
  omega
theorem small62_of {n : Int} (h : -(4611686018427387904 : Int) ≤ n) (h' : n < 4611686018427387904) : small62 n = true := by
  unfold small62
  rw [Bool.and_eq_true, decide_eq_true_eq, decide_eq_true_eq]
  omega
@[simp] theorem guard_dec {α : Type} {p : Prop} [Decidable p] (h : p) (r : R α) : R.guard (decide p) r = r := by rw [decide_eq_true h]; rfl
@[simp] theorem Line_eq : Line = 16777216 := rfl
theorem out_of {fr : Bool} {o : O} {z : D} (h : o = .ret z) : outO fr o = .ok z := by rw [h]; rfl
section
variable {fn : Nat → List D → R D} {fu : Nat} {ρ : Env} {o : O} {r : Cmds}
theorem go_set {i : Nat} {e : Ex} {z : D} (h : ev fn e ρ = .ok z) (k : evCs fn fu r (setV ρ i z) = o) : evCs fn fu (.cons (.set i e) r) ρ = o := by
  rw [evCs_cons, evC_set, h]; exact k
theorem go_own {i : Nat} {e : Ex} {z : D} (h : ev fn e ρ = .ok z) (k : evCs fn fu r (setV ρ i z) = o) : evCs fn fu (.cons (.own i e) r) ρ = o := by
  rw [evCs_cons, evC_own, h]; exact k
theorem go_tgt {is : List Nat} {e : Ex} {z : D} {ρ' : Env} (h : ev fn e ρ = .ok z) (h' : bindT ρ (.many is) z = .ok ρ') (k : evCs fn fu r ρ' = o) : evCs fn fu (.cons (.tgt is e) r) ρ = o := by
  rw [evCs_cons, evC_tgt, h, thenO_ok, h']; exact k
theorem go_f {c : Ex} {a b : Cmds} (h : ev fn c ρ = .ok (.bl false)) (k : seqO (evCs fn fu b ρ) (fun ρ' => evCs fn fu r ρ') = o) : evCs fn fu (.cons (.if_ c a b) r) ρ = o := by
  rw [evCs_cons, evC_if, h]; exact k
theorem go_f0 {c : Ex} {a : Cmds} (h : ev fn c ρ = .ok (.bl false)) (k : evCs fn fu r ρ = o) : evCs fn fu (.cons (.if_ c a .nil) r) ρ = o := by
  rw [evCs_cons, evC_if, h]; exact k
theorem go_for {it : Itr} {tg : Tg} {body : Cmds} {xs : List D} {ρ' : Env} (h : evi fn it ρ = .ok xs) (l : forL (fun ρ x => thenO (bindT ρ tg x) ρ fun ρ' => evCs fn fu body ρ') xs ρ = .nx ρ') (k : evCs fn fu r ρ' = o) : evCs fn fu (.cons (.for_ it tg body) r) ρ = o := by
  rw [evCs_cons, evC_for, h, thenO_ok, l]; exact k
theorem go_ret {e : Ex} {z : D} (h : ev fn e ρ = .ok z) : evCs fn fu (.cons (.ret e) r) ρ = .ret z := by
  rw [evCs_cons, evC_ret, h]; rfl
theorem go_retM {i : Nat} {z : D} (h : getV ρ i = .ok z) : evCs fn fu (.cons (.retM i) r) ρ = .ret z := by
  rw [evCs_cons, evC_retM, h]; rfl
end
@[simp] theorem bind_one (ρ : Env) (i : Nat) (d : D) : bindT ρ (.one i) d = .ok (setV ρ i d) := rfl
@[simp] theorem bind_many (ρ : Env) (is : List Nat) (ds : List D) (h : ds.length = is.length) : bindT ρ (.many is) (.tup ds) = setVs ρ is ds := by
  unfold bindT; simp only; rw [decide_eq_true h]; rfl
@[simp] theorem bind_manyL (ρ : Env) (is : List Nat) (ds : List D) (h : ds.length = is.length) : bindT ρ (.many is) (.lst ds) = setVs ρ is ds := by
  unfold bindT; simp only; rw [decide_eq_true h]; rfl
@[simp] theorem setVs_nil (ρ : Env) : setVs ρ [] [] = .ok ρ := rfl
@[simp] theorem setVs_cons (ρ : Env) (i : Nat) (is : List Nat) (d : D) (ds : List D) : setVs ρ (i :: is) (d :: ds) = setVs (setV ρ i d) is ds := rfl
def loopO (o : O) (k : Env → O) : O := match o with
  | .nx ρ => k ρ
  | .cont ρ => k ρ
  | .brk ρ => .nx ρ
  | o => o
@[simp] theorem loopO_nx (ρ : Env) (k : Env → O) : loopO (.nx ρ) k = k ρ := rfl
@[simp] theorem loopO_cont (ρ : Env) (k : Env → O) : loopO (.cont ρ) k = k ρ := rfl
@[simp] theorem loopO_brk (ρ : Env) (k : Env → O) : loopO (.brk ρ) k = .nx ρ := rfl
@[simp] theorem loopO_ret (z : D) (k : Env → O) : loopO (.ret z) k = .ret z := rfl
@[simp] theorem loopO_exc (c : Nat) (ρ : Env) (k : Env → O) : loopO (.exc c ρ) k = .exc c ρ := rfl
theorem fdiv_pos {a b : Int} (h : 0 < b) : a.fdiv b = a / b := Int.fdiv_eq_ediv_of_nonneg a (by omega)
theorem fmod_pos {a b : Int} (h : 0 < b) : a.fmod b = a % b := Int.fmod_eq_emod_of_nonneg a (by omega)
theorem fdv_bounds {a b : Int} (h : 0 < b) : a.fdiv b * b ≤ a ∧ a < (a.fdiv b + 1) * b := by
  rw [fdiv_pos h]
  have h1 := Int.mul_ediv_add_emod a b
  have h2 := Int.emod_nonneg a (show b ≠ 0 by omega)
  have h3 := Int.emod_lt_of_pos a h
  rw [Int.mul_comm] at h1
  rw [Int.add_mul, Int.one_mul]
  generalize a / b * b = z at *
  constructor <;> omega
theorem fmod_bounds {a b : Int} (h : 0 < b) : 0 ≤ a.fmod b ∧ a.fmod b < b := by
  rw [fmod_pos h]
  exact ⟨Int.emod_nonneg a (by omega), Int.emod_lt_of_pos a h⟩
theorem mulOk_lit {i j : Int} (h1 : -(2 ^ 900) < i) (h2 : i < 2 ^ 900) (h3 : -(2 ^ 900) < j) (h4 : j < 2 ^ 900) : mulOk i j = true := mulOk_of 900 900 (by omega) (by omega)
section
variable {fn : Nat → List D → R D}
theorem go_fa {fu : Nat} {ρ ρ' : Env} {o : O} {r a b : Cmds} {c : Ex} (h : ev fn c ρ = .ok (.bl false)) (ha : evCs fn fu b ρ = .nx ρ') (k : evCs fn fu r ρ' = o) : evCs fn fu (.cons (.if_ c a b) r) ρ = o := by
  refine go_f h ?_
  rw [ha]; exact k
end
end Den
namespace Den
/-- a stretch: its ends, its price at the low, its step -/
structure Q where
  lo : Int
  hi : Int
  pr : Int
  st : Int
  deriving DecidableEq
def Q.at (q : Q) (x : Int) : Int := q.pr + q.st * (x - q.lo)
@[simp] theorem Q.at_lo (q : Q) : q.at q.lo = q.pr := by simp [Q.at]
theorem Q.at_add (q : Q) (x y : Int) : q.at (x + y) = q.at x + q.st * y := by
  unfold Q.at
  rw [show x + y - q.lo = (x - q.lo) + y by omega, Int.mul_add]; omega
theorem Q.at_sub (q : Q) (x y : Int) : q.at x = q.at y + q.st * (x - y) := by
  rw [← q.at_add y (x - y)]; congr 1; omega
/-- each behind the one ahead -/
structure Asc (l : List Q) : Prop where
  w : ∀ q ∈ l, q.lo ≤ q.hi
  p : l.Pairwise fun a b => a.hi < b.lo
theorem Asc.nil : Asc [] := ⟨(fun _ h => nomatch h), .nil⟩
theorem Asc.one {q : Q} (h : q.lo ≤ q.hi) : Asc [q] := ⟨fun p hp => by rw [List.mem_singleton.mp hp]; exact h, List.pairwise_singleton _ _⟩
theorem asc_cons {q : Q} {r : List Q} : Asc (q :: r) ↔ q.lo ≤ q.hi ∧ (∀ b ∈ r, q.hi < b.lo) ∧ Asc r := by
  constructor
  · intro h
    obtain ⟨h1, h2⟩ := List.pairwise_cons.mp h.p
    exact ⟨h.w q (.head _), h1, fun b hb => h.w b (.tail _ hb), h2⟩
  · rintro ⟨h1, h2, h3⟩
    exact ⟨fun b hb => by
      rcases List.mem_cons.mp hb with e | e
      · rw [e]; exact h1
      · exact h3.w b e, List.pairwise_cons.mpr ⟨h2, h3.p⟩⟩
theorem Asc.tail {q : Q} {r : List Q} (h : Asc (q :: r)) : Asc r := (asc_cons.mp h).2.2
/-- the next stretch of a form -/
def Q.nxt (a b : Q) : Prop := a.hi < b.lo ∧ (b.lo = a.hi + 1 → a.lo ≠ a.hi ∧ b.pr ≠ a.at b.lo)
/-- a form -/
structure Can (l : List Q) : Prop where
  w : ∀ q ∈ l, q.lo ≤ q.hi
  z : ∀ q ∈ l, q.lo = q.hi → q.st = 0
  p : l.Pairwise Q.nxt
theorem Can.nil : Can [] := ⟨(fun _ h => nomatch h), (fun _ h => nomatch h), .nil⟩
theorem Can.tail {q : Q} {r : List Q} (h : Can (q :: r)) : Can r := ⟨fun b hb => h.w b (.tail _ hb), fun b hb => h.z b (.tail _ hb), (List.pairwise_cons.mp h.p).2⟩
theorem Can.one {q : Q} (h : q.lo ≤ q.hi) (h2 : q.lo = q.hi → q.st = 0) : Can [q] :=
  ⟨fun p hp => by rw [List.mem_singleton.mp hp]; exact h, fun p hp => by rw [List.mem_singleton.mp hp]; exact h2, List.pairwise_singleton _ _⟩
theorem Can.init {r s : List Q} (h : Can (r ++ s)) : Can r := ⟨fun b hb => h.w b (List.mem_append_left _ hb), fun b hb => h.z b (List.mem_append_left _ hb), (List.pairwise_append.mp h.p).1⟩
structure Q.bd (N : Nat) (q : Q) : Prop where
  lo : q.lo.natAbs ≤ N
  hi : q.hi.natAbs ≤ N
  pr : q.pr.natAbs ≤ N
  st : q.st.natAbs ≤ N
  en : (q.at q.hi).natAbs ≤ N
def Bd (N : Nat) (l : List Q) : Prop := ∀ q ∈ l, q.bd N
theorem Q.bd.mono {N M : Nat} {q : Q} (h : q.bd N) (k : N ≤ M) : q.bd M := ⟨Nat.le_trans h.lo k, Nat.le_trans h.hi k, Nat.le_trans h.pr k, Nat.le_trans h.st k, Nat.le_trans h.en k⟩
theorem Bd.mono {N M : Nat} {l : List Q} (h : Bd N l) (k : N ≤ M) : Bd M l := fun q hq => (h q hq).mono k
theorem Bd.nil {N : Nat} : Bd N [] := fun _ h => nomatch h
/-- between a stretch's ends the cost is between those of the ends -/
theorem Q.at_between {q : Q} {x : Int} (h1 : q.lo ≤ x) (h2 : x ≤ q.hi) : (q.pr ≤ q.at x ∧ q.at x ≤ q.at q.hi) ∨ (q.at q.hi ≤ q.at x ∧ q.at x ≤ q.pr) := by
  have e : q.at q.hi = q.at x + q.st * (q.hi - x) := Q.at_sub q q.hi x
  have a : q.at x = q.pr + q.st * (x - q.lo) := rfl
  rcases Int.le_total 0 q.st with h | h
  · have z1 := Int.mul_nonneg h (show 0 ≤ x - q.lo by omega)
    have z2 := Int.mul_nonneg h (show 0 ≤ q.hi - x by omega)
    exact .inl ⟨by omega, by omega⟩
  · have z1 := Int.mul_nonneg (show 0 ≤ -q.st by omega) (show 0 ≤ x - q.lo by omega)
    have z2 := Int.mul_nonneg (show 0 ≤ -q.st by omega) (show 0 ≤ q.hi - x by omega)
    rw [Int.neg_mul] at z1 z2
    exact .inr ⟨by omega, by omega⟩
theorem Q.bd.at {N : Nat} {q : Q} (h : q.bd N) {x : Int} (h1 : q.lo ≤ x) (h2 : x ≤ q.hi) : (q.at x).natAbs ≤ N := by
  have a := h.pr; have b := h.en
  rcases Q.at_between h1 h2 with ⟨k1, k2⟩ | ⟨k1, k2⟩ <;> omega
/-- a part of a stretch -/
theorem Q.bd.sub {N : Nat} {q : Q} (h : q.bd N) {a b : Int} (h1 : q.lo ≤ a) (h2 : a ≤ b) (h3 : b ≤ q.hi) : Q.bd N ⟨a, b, q.at a, q.st⟩ := by
  have x := h.lo; have y := h.hi
  refine ⟨?_, ?_, h.at h1 (by omega), h.st, ?_⟩
  · show a.natAbs ≤ N; omega
  · show b.natAbs ≤ N; omega
  · show (q.at a + q.st * (b - a)).natAbs ≤ N
    rw [← Q.at_sub]; exact h.at (by omega) h3
end Den
namespace Den
open PySem PySem.Spec PyProof.Rows L2
def fuel : Nat := 1000000
set_option exponentiation.threshold 20000
@[irreducible] def Hg : Nat := 2 ^ 8000
theorem le_Hg {k : Nat} (h : k ≤ 8000) : 2 ^ k ≤ Hg := by unfold Hg; exact Nat.pow_le_pow_right (by decide) h
theorem lt_Hg {a : Int} (h : a.natAbs ≤ 64 * Hg) : a.natAbs < 2 ^ 8007 := by
  have e : 2 ^ 8007 = 128 * Hg := by unfold Hg; rw [show 8007 = 7 + 8000 by rfl, Nat.pow_add]
  have p : 0 < Hg := Nat.lt_of_lt_of_le (by decide) (le_Hg (k := 1) (by decide))
  rw [e]; omega
theorem divH {b : Int} (h0 : b ≠ 0) (hb : b.natAbs ≤ 64 * Hg) : divOk b = true :=
  divOk_of h0 (Nat.lt_of_lt_of_le (lt_Hg hb) (Nat.pow_le_pow_right (by decide) (by decide)))
def Q.d (q : Q) : D := .tup [.int q.lo, .int q.hi, .int q.pr, .int q.st]
@[simp] theorem ix_q0 (q : Q) : ixD q.d (.int 0) = .ok (.int q.lo) := ix_tup0 _ _
@[simp] theorem ix_q1 (q : Q) : ixD q.d (.int 1) = .ok (.int q.hi) := ix_tup1 _ _ _
@[simp] theorem ix_q2 (q : Q) : ixD q.d (.int 2) = .ok (.int q.pr) := ix_tup2 _ _ _ _
@[simp] theorem ix_q3 (q : Q) : ixD q.d (.int 3) = .ok (.int q.st) := ix_tup3 _ _ _ _ _
@[simp] theorem q_tuple (q : Q) : isiD .tuple q.d = .ok true := rfl
@[simp] theorem q_len (q : Q) : biD .len [q.d] = .ok (.int 4) := rfl
def costD (o : Option Int) : D := match o with | some z => .int z | none => .non
@[simp] theorem costD_some (z : Int) : costD (some z) = .int z := rfl
@[simp] theorem costD_none : costD none = .non := rfl
@[simp] theorem q_flat (l : List Q) : D.flat (.tup (l.map Q.d)) = true := by
  rw [D.flat]
  induction l with
  | nil => rfl
  | cons q r ih => rw [List.map_cons, D.flatL, ih]; rfl
mutual
/-- no bool, no dict within -/
def D.pl : D → Bool
  | .non => true | .bl _ => false | .int _ => true | .str _ => true
  | .tup xs => D.plL xs | .lst xs => D.plL xs | .dct _ _ _ => false | .dcT _ _ => false | .obj _ _ => false
def D.plL : List D → Bool
  | [] => true
  | x :: xs => x.pl && D.plL xs
end
mutual
theorem pl_plain : ∀ {d : D}, d.pl = true → d.py.plain = true
  | .non, _ => rfl
  | .int _, _ => rfl
  | .str _, _ => rfl
  | .tup xs, h => by rw [D.py, PyData.plain]; exact plL_plain (by rw [D.pl] at h; exact h)
  | .lst xs, h => by rw [D.py, PyData.plain]; exact plL_plain (by rw [D.pl] at h; exact h)
  | .bl _, h => by simp [D.pl] at h
  | .dct _ _ _, h => by simp [D.pl] at h
  | .dcT _ _, h => by simp [D.pl] at h
  | .obj _ _, h => by simp [D.pl] at h
theorem plL_plain : ∀ {d : List D}, D.plL d = true → PyData.plainAll (D.pyL d) = true
  | [], _ => rfl
  | x :: r, h => by
    rw [D.plL, Bool.and_eq_true] at h
    rw [D.pyL, PyData.plainAll, pl_plain h.1, plL_plain h.2]; rfl
end
mutual
theorem eqv_pl : ∀ {d e : D}, d.pl = true → e.pl = true → PyData.eqv d.py e.py = true → d = e
  | .non, e, _, h2, h => by cases e <;> simp_all [D.py, PyData.eqv, D.pl]
  | .int _, e, _, h2, h => by cases e <;> simp_all [D.py, PyData.eqv, D.pl]
  | .str _, e, _, h2, h => by cases e <;> simp_all [D.py, PyData.eqv, D.pl]
  | .tup xs, e, h1, h2, h => by
    cases e with
    | tup ys =>
      rw [D.py, D.py, PyData.eqv] at h
      rw [eqvL_pl (by simpa [D.pl] using h1) (by simpa [D.pl] using h2) h]
    | _ => simp_all [D.py, PyData.eqv, D.pl]
  | .lst xs, e, h1, h2, h => by
    cases e with
    | lst ys =>
      rw [D.py, D.py, PyData.eqv] at h
      rw [eqvL_pl (by simpa [D.pl] using h1) (by simpa [D.pl] using h2) h]
    | _ => simp_all [D.py, PyData.eqv, D.pl]
  | .bl _, _, h, _, _ => by simp [D.pl] at h
  | .dct _ _ _, _, h, _, _ => by simp [D.pl] at h
  | .dcT _ _, _, h, _, _ => by simp [D.pl] at h
  | .obj _ _, _, h, _, _ => by simp [D.pl] at h
theorem eqvL_pl : ∀ {d e : List D}, D.plL d = true → D.plL e = true → PyData.eqvAll (D.pyL d) (D.pyL e) = true → d = e
  | [], e, _, _, h => by cases e <;> simp_all [D.pyL, PyData.eqvAll]
  | x :: r, e, h1, h2, h => by
    cases e with
    | nil => simp_all [D.pyL, PyData.eqvAll]
    | cons y s =>
      rw [D.plL, Bool.and_eq_true] at h1 h2
      rw [D.pyL, D.pyL, PyData.eqvAll, Bool.and_eq_true] at h
      rw [eqv_pl h1.1 h2.1 h.1, eqvL_pl h1.2 h2.2 h.2]
end
theorem eqv_self {d : D} (h : d.py.plain = true) : PyData.eqv d.py d.py = true := PySem.SeqAt.eqv_refl_plain _ h
theorem eqv_is {d e : D} (h1 : d.pl = true) (h2 : e.pl = true) [Decidable (d = e)] : PyData.eqv d.py e.py = decide (d = e) := by
  by_cases h : d = e
  · rw [decide_eq_true h, h]; exact eqv_self (pl_plain h2)
  · rw [decide_eq_false h]
    cases q : PyData.eqv d.py e.py with
    | false => rfl
    | true => exact absurd (eqv_pl h1 h2 q) h
theorem eqD_is {d e : D} (h1 : d.pl = true) (h2 : e.pl = true) (h3 : d.py.depth ≤ 60) [Decidable (d = e)] : eqD d e = .ok (decide (d = e)) := by
  unfold eqD eqOk
  rw [pl_plain h1, pl_plain h2, decide_eq_true (show min d.py.depth e.py.depth ≤ 60 by omega), eqv_is h1 h2]; rfl
@[simp] theorem q_pl (q : Q) : q.d.pl = true := rfl
theorem eqD_refl {d : D} (h : d.pl = true) (h3 : d.py.depth ≤ 60) : eqD d d = .ok true := by
  have := @eqD_is d d h h h3 (.isTrue rfl)
  rw [this]; simp
@[simp] theorem isNon_cost (o : Option Int) : isNon (costD o) = o.isNone := by cases o <;> rfl
/-- no number of more than some million bits -/
def Sm (c : Int) : Prop := c.natAbs.log2 ≤ 2000000
theorem Sm.of {c : Int} (h : Builtin.Int.intBits c ≤ 1048576) : Sm c := by
  unfold Sm
  unfold Builtin.Int.intBits at h
  by_cases h0 : c = 0
  · subst h0; decide
  · rw [if_neg (by simpa using h0)] at h; omega
theorem Sm.mul {c j : Int} (h : Sm c) (hj : j.natAbs < 2 ^ 250) : mulOk c j = true := by
  unfold mulOk
  rw [decide_eq_true_eq]
  unfold Sm at h
  have : j.natAbs.log2 < 250 ∨ j.natAbs.log2 = 0 := by
    by_cases h0 : j.natAbs = 0
    · rw [h0]; exact .inr (by decide)
    · exact .inl ((Nat.log2_lt h0).mpr hj)
  omega
theorem fdv_abs {a b : Int} (h : 0 < b) : (a.fdiv b).natAbs ≤ a.natAbs := by
  obtain ⟨h1, h2⟩ := fdv_bounds (a := a) h
  generalize a.fdiv b = q at *
  rcases Int.lt_or_le q 0 with q0 | q0
  · have : (q + 1) * b ≤ q + 1 := by
      have := Int.mul_nonneg (show 0 ≤ -(q + 1) by omega) (show 0 ≤ b - 1 by omega)
      rw [Int.mul_sub, Int.mul_one, Int.neg_mul] at this
      omega
    omega
  · have : q ≤ q * b := by
      have := Int.mul_nonneg q0 (show 0 ≤ b - 1 by omega)
      rw [Int.mul_sub, Int.mul_one] at this
      omega
    omega
theorem log2_mono {a b : Nat} (h : a ≤ b) : a.log2 ≤ b.log2 := by
  by_cases h0 : a = 0
  · subst h0; rw [show Nat.log2 0 = 0 by decide]; exact Nat.zero_le _
  · have := (Nat.log2_lt h0 (k := b.log2 + 1)).mpr (Nat.lt_of_le_of_lt h Nat.lt_log2_self)
    omega
theorem Sm.of_le {a b : Int} (h : Sm b) (k : a.natAbs ≤ b.natAbs) : Sm a := Nat.le_trans (log2_mono k) h
theorem Sm.fdiv {a b : Int} (h : Sm a) (k : 0 < b) : Sm (a.fdiv b) := h.of_le (fdv_abs k)
/-- a law's own promise -/
def S_law (f : List D → R D) : Prop := ∀ ns : List Int, ns.length ≤ 63 → (∀ z ∈ ns, Builtin.Int.intBits z ≤ 1048576) → f [.lst (ns.map .int)] = .ok (.bl true)
end Den
namespace Den
open PySem PySem.Spec PyProof.Rows L2
variable {fn : Nat → List D → R D}
def b_down : Cmds := (.cons (.ret (.bin .fdiv (.var 0) (.var 1))) .nil)
abbrev r_down (fn : Nat → List D → R D) : List D → R D := runF fn fuel 2 false b_down
theorem r_down_eq (fn zs) : r_down fn zs = outO false (evCs fn fuel b_down (initE 2 zs)) := runF_eq _ _ _ _ _ _
def b_up : Cmds := (.cons (.ret (.neg (.bin .fdiv (.neg (.var 0)) (.var 1)))) .nil)
abbrev r_up (fn : Nat → List D → R D) : List D → R D := runF fn fuel 2 false b_up
theorem r_up_eq (fn zs) : r_up fn zs = outO false (evCs fn fuel b_up (initE 2 zs)) := runF_eq _ _ _ _ _ _
def S_down (f : List D → R D) : Prop := ∀ a b : Int, divOk b = true → f [.int a, .int b] = .ok (.int (a.fdiv b))
theorem down_sp : S_down (r_down fn) := fun a b h => by simp [r_down_eq, b_down, initE, h]
def S_up (f : List D → R D) : Prop := ∀ a b : Int, divOk b = true → f [.int a, .int b] = .ok (.int (-((-a).fdiv b)))
theorem up_sp : S_up (r_up fn) := fun a b h => by simp [r_up_eq, b_up, initE, h]
end Den
namespace Den
open PySem PySem.Spec PyProof.Rows L2
variable {fn : Nat → List D → R D}
def b_law_whole : Cmds := (.cons (.ret (.and_ (.isi (.var 0) .int) (.not_ (.isi (.var 0) .bool)))) .nil)
abbrev r_law_whole (fn : Nat → List D → R D) : List D → R D := runF fn fuel 1 false b_law_whole
theorem r_law_whole_eq (fn zs) : r_law_whole fn zs = outO false (evCs fn fuel b_law_whole (initE 1 zs)) := runF_eq _ _ _ _ _ _
def S_law_whole (f : List D → R D) : Prop := ∀ c : Int, f [.int c] = .ok (.bl true)
theorem law_whole_sp : S_law_whole (r_law_whole fn) := fun c => by simp [r_law_whole_eq, b_law_whole, initE]
end Den
namespace Den
open PySem PySem.Spec PyProof.Rows L2
end Den
namespace Den
def Q.mul (k : Int) (q : Q) : Q := ⟨q.lo, q.hi, q.pr * k, q.st * k⟩
end Den
namespace Den
open PySem PySem.Spec PyProof.Rows L2
end Den
namespace Den
end Den
namespace Den
def noDear (p s n : Int) : Option (Int × Int) :=
  if s = 0 ∧ 0 < p then none
  else if (if 0 < s then min n ((-p).fdiv s) else n) < (if s < 0 then max 0 (-((-p).fdiv (-s))) else 0) then none
  else some (if s < 0 then max 0 (-((-p).fdiv (-s))) else 0, if 0 < s then min n ((-p).fdiv s) else n)
theorem fdiv_ediv {a b : Int} (h : 0 < b) : a.fdiv b = a / b := Int.fdiv_eq_ediv_of_nonneg a (by omega)
theorem gap_pos {p s x : Int} (h : 0 < s) : p + s * x ≤ 0 ↔ x ≤ (-p).fdiv s := by
  rw [fdiv_ediv h, Int.le_ediv_iff_mul_le h, Int.mul_comm]
  omega
theorem gap_neg {p s x : Int} (h : s < 0) : p + s * x ≤ 0 ↔ -((-p).fdiv (-s)) ≤ x := by
  have : -((-p).fdiv (-s)) ≤ x ↔ -x ≤ (-p).fdiv (-s) := by omega
  rw [this, fdiv_ediv (show 0 < -s by omega), Int.le_ediv_iff_mul_le (by omega), Int.neg_mul_neg, Int.mul_comm]
  omega
theorem noDear_ok (p s n : Int) (hn : 0 ≤ n) : match noDear p s n with
    | none => ∀ x, 0 ≤ x → x ≤ n → 0 < p + s * x
    | some (F, L) => 0 ≤ F ∧ F ≤ L ∧ L ≤ n ∧ ∀ x, 0 ≤ x → x ≤ n → (p + s * x ≤ 0 ↔ F ≤ x ∧ x ≤ L) := by
  unfold noDear
  by_cases h0 : s = 0 ∧ 0 < p
  · rw [if_pos h0]
    intro x _ _
    rw [h0.1, Int.zero_mul]; omega
  · rw [if_neg h0]
    by_cases h1 : 0 < s
    · have g := fun x => gap_pos (p := p) (x := x) h1
      have hn1 : ¬ s < 0 := by omega
      rw [if_pos h1, if_neg hn1]
      generalize (-p).fdiv s = q at *
      by_cases h2 : min n q < 0
      · rw [if_pos h2]
        intro x a b
        have := g x
        omega
      · rw [if_neg h2]
        refine ⟨by omega, by omega, by omega, fun x a b => ?_⟩
        rw [g x]; omega
    · rw [if_neg h1]
      by_cases h3 : s < 0
      · have g := fun x => gap_neg (p := p) (x := x) h3
        rw [if_pos h3]
        generalize -((-p).fdiv (-s)) = q at *
        by_cases h2 : n < max 0 q
        · rw [if_pos h2]
          intro x a b
          have := g x
          omega
        · rw [if_neg h2]
          refine ⟨by omega, by omega, by omega, fun x a b => ?_⟩
          rw [g x]; omega
      · have e : s = 0 := by omega
        rw [if_neg h3, if_neg (by omega)]
        refine ⟨by omega, by omega, by omega, fun x a b => ?_⟩
        rw [e, Int.zero_mul]; omega
end Den
namespace Den
open PySem PySem.Spec PyProof.Rows L2
variable {fn : Nat → List D → R D}
def b_no_dearer : Cmds := (.cons (.set 4 (.bin .sub (.ix (.var 0) (.cst (.int 0))) (.ix (.var 1) (.cst (.int 0))))) (.cons (.set 5 (.bin .sub (.ix (.var 0) (.cst (.int 1))) (.ix (.var 1) (.cst (.int 1))))) (.cons (.set 6 (.cst (.int 0))) (.cons (.set 7 (.bin .sub (.var 3) (.var 2))) (.cons (.if_ (.cmp .gt (.var 5) (.cst (.int 0))) (.cons (.set 7 (.bi .min2 (.cons (.var 7) (.cons (.call 1 (.cons (.neg (.var 4)) (.cons (.var 5) .nil))) .nil)))) .nil) (.cons (.if_ (.cmp .lt (.var 5) (.cst (.int 0))) (.cons (.set 6 (.bi .max2 (.cons (.var 6) (.cons (.call 2 (.cons (.var 4) (.cons (.neg (.var 5)) .nil))) .nil)))) .nil) (.cons (.if_ (.cmp .gt (.var 4) (.cst (.int 0))) (.cons (.ret (.cst .non)) .nil) .nil) .nil)) .nil)) (.cons (.if_ (.cmp .gt (.var 6) (.var 7)) (.cons (.ret (.cst .non)) .nil) .nil) (.cons (.ret (.tup (.cons (.bin .add (.var 2) (.var 6)) (.cons (.bin .add (.var 2) (.var 7)) .nil)))) .nil)))))))
abbrev r_no_dearer (fn : Nat → List D → R D) : List D → R D := runF fn fuel 8 false b_no_dearer
theorem r_no_dearer_eq (fn zs) : r_no_dearer fn zs = outO false (evCs fn fuel b_no_dearer (initE 8 zs)) := runF_eq _ _ _ _ _ _
theorem r_no_dearer_at (fn : Nat → List D → R D) (z0 z1 z2 z3 : D) : r_no_dearer fn [z0, z1, z2, z3] = outO false (evCs fn fuel b_no_dearer [some z0, some z1, some z2, some z3, none, none, none, none]) := r_no_dearer_eq fn _
def prI (p : Int × Int) : D := .tup [.int p.1, .int p.2]
@[simp] theorem ix_i0 (p : Int × Int) : ixD (prI p) (.int 0) = .ok (.int p.1) := ix_tup0 _ _
@[simp] theorem ix_i1 (p : Int × Int) : ixD (prI p) (.int 1) = .ok (.int p.2) := ix_tup1 _ _ _
def ndD (lo : Int) (o : Option (Int × Int)) : D := match o with
  | none => .non
  | some (F, L) => .tup [.int (lo + F), .int (lo + L)]
def S_no_dearer (f : List D → R D) : Prop := ∀ (a b : Int × Int) (lo hi : Int), a.2.natAbs ≤ 16 * Hg → b.2.natAbs ≤ 16 * Hg → f [prI a, prI b, .int lo, .int hi] = .ok (ndD lo (noDear (a.1 - b.1) (a.2 - b.2) (hi - lo)))
theorem no_dearer_sp (h_down : S_down (fn 1)) (h_up : S_up (fn 2)) : S_no_dearer (r_no_dearer fn) := fun a b lo hi ha hb => by
  unfold noDear
  by_cases h1 : 0 < a.2 - b.2
  · have d := h_down (-(a.1 - b.1)) (a.2 - b.2) (divH (by omega) (by omega))
    have n1 : ¬ a.2 - b.2 < 0 := by omega
    have n2 : ¬ (a.2 - b.2 = 0 ∧ 0 < a.1 - b.1) := by omega
    rw [if_neg n2, if_neg n1, if_pos h1]
    have k1 : b.2 < a.2 := by omega
    generalize (-(a.1 - b.1)).fdiv (a.2 - b.2) = q at *
    by_cases h2 : min (hi - lo) q < 0
    · rw [if_pos h2]
      simp [r_no_dearer_at, b_no_dearer, k1, d, h2, ndD]
    · rw [if_neg h2]
      simp [r_no_dearer_at, b_no_dearer, k1, d, h2, ndD]
  · by_cases h3 : a.2 - b.2 < 0
    · have d := h_up (a.1 - b.1) (-(a.2 - b.2)) (divH (by omega) (by omega))
      have n2 : ¬ (a.2 - b.2 = 0 ∧ 0 < a.1 - b.1) := by omega
      rw [if_neg n2, if_pos h3, if_neg h1]
      have k1 : ¬ b.2 < a.2 := by omega
      have k2 : a.2 < b.2 := by omega
      generalize -((-(a.1 - b.1)).fdiv (-(a.2 - b.2))) = q at *
      by_cases h2 : hi - lo < max 0 q
      · rw [if_pos h2]
        simp [r_no_dearer_at, b_no_dearer, k1, k2, h1, h3, d, h2, ndD]
      · rw [if_neg h2]
        simp [r_no_dearer_at, b_no_dearer, k1, k2, h1, h3, d, h2, ndD]
    · have e : a.2 - b.2 = 0 := by omega
      have k1 : ¬ b.2 < a.2 := by omega
      have k2 : ¬ a.2 < b.2 := by omega
      by_cases h4 : 0 < a.1 - b.1
      · have k3 : b.1 < a.1 := by omega
        rw [if_pos ⟨e, h4⟩]
        simp [r_no_dearer_at, b_no_dearer, k1, k2, h1, h3, k3, ndD]
      · have k3 : ¬ b.1 < a.1 := by omega
        rw [if_neg (fun h => h4 h.2), if_neg h1, if_neg h3]
        by_cases h2 : hi - lo < 0
        · rw [if_pos h2]
          have h2' : hi < lo := by omega
          simp [r_no_dearer_at, b_no_dearer, k1, k2, h1, h3, k3, h2, ndD]
        · rw [if_neg h2]
          simp [r_no_dearer_at, b_no_dearer, k1, k2, h1, h3, k3, h2, ndD]
def lnD (o : Option (Int × Int)) : D := match o with
  | none => .non
  | some p => prI p
@[simp] theorem lnD_none : lnD none = .non := rfl
@[simp] theorem lnD_some (p : Int × Int) : lnD (some p) = prI p := rfl
@[simp] theorem isNon_prI (p : Int × Int) : isNon (prI p) = false := rfl
def Q.neg (q : Q) : Q := ⟨q.lo, q.hi, -q.pr, -q.st⟩
theorem neg_mul (q : Q) : q.neg = q.mul (-1) := by simp [Q.neg, Q.mul]
end Den
namespace Den
open PySem PySem.Spec PyProof.Rows L2
variable {fn : Nat → List D → R D}
def b_law_big : Cmds := (.cons (.if_ (.cmp .eq (.bin .mod (.var 0) (.cst (.int 3))) (.cst (.int 0))) (.cons (.ret (.bin .sub (.bin .mod (.bin .fdiv (.var 0) (.cst (.int 3))) (.cst (.int 41))) (.cst (.int 20)))) .nil) .nil) (.cons (.if_ (.cmp .eq (.bin .mod (.var 0) (.cst (.int 3))) (.cst (.int 1))) (.cons (.ret (.bin .sub (.bin .mod (.bin .fdiv (.var 0) (.cst (.int 3))) (.cst (.int 2001))) (.cst (.int 1000)))) .nil) .nil) (.cons (.ret (.bin .sub (.bin .mod (.bin .fdiv (.var 0) (.cst (.int 3))) (.bin .mul (.cst (.int 2)) (.bin .pow (.cst (.int 10)) (.cst (.int 50))))) (.bin .pow (.cst (.int 10)) (.cst (.int 50))))) .nil)))
abbrev r_law_big (fn : Nat → List D → R D) : List D → R D := runF fn fuel 1 false b_law_big
theorem r_law_big_eq (fn zs) : r_law_big fn zs = outO false (evCs fn fuel b_law_big (initE 1 zs)) := runF_eq _ _ _ _ _ _
theorem r_law_big_at (fn : Nat → List D → R D) (z0 : D) : r_law_big fn [z0] = outO false (evCs fn fuel b_law_big [some z0]) := r_law_big_eq fn _
def b_law_lines : Cmds := (.cons (.set 2 (.tup (.cons (.bin .sub (.bin .mod (.bin .fdiv (.var 0) (.cst (.int 3))) (.cst (.int 121))) (.cst (.int 60))) (.cons (.bin .sub (.bin .mod (.bin .fdiv (.var 0) (.cst (.int 363))) (.cst (.int 15))) (.cst (.int 7))) .nil)))) (.cons (.set 3 (.tup (.cons (.bin .sub (.bin .mod (.bin .fdiv (.var 1) (.cst (.int 3))) (.cst (.int 121))) (.cst (.int 60))) (.cons (.bin .sub (.bin .mod (.bin .fdiv (.var 1) (.cst (.int 363))) (.cst (.int 15))) (.cst (.int 7))) .nil)))) (.cons (.if_ (.cmp .eq (.bin .mod (.var 1) (.cst (.int 3))) (.cst (.int 1))) (.cons (.set 3 (.tup (.cons (.bin .sub (.bin .add (.ix (.var 2) (.cst (.int 0))) (.bin .mod (.var 0) (.cst (.int 3)))) (.cst (.int 1))) (.cons (.ix (.var 2) (.cst (.int 1))) .nil)))) .nil) .nil) (.cons (.ret (.tup (.cons (.var 2) (.cons (.var 3) .nil)))) .nil))))
abbrev r_law_lines (fn : Nat → List D → R D) : List D → R D := runF fn fuel 4 false b_law_lines
theorem r_law_lines_eq (fn zs) : r_law_lines fn zs = outO false (evCs fn fuel b_law_lines (initE 4 zs)) := runF_eq _ _ _ _ _ _
theorem r_law_lines_at (fn : Nat → List D → R D) (z0 z1 : D) : r_law_lines fn [z0, z1] = outO false (evCs fn fuel b_law_lines [some z0, some z1, none, none]) := r_law_lines_eq fn _
def w_law_due_0 : Cmds := (.cons (.if_ (.cmp .le (.bin .add (.ix (.var 0) (.cst (.int 0))) (.bin .mul (.ix (.var 0) (.cst (.int 1))) (.bin .sub (.var 5) (.var 2)))) (.bin .add (.ix (.var 1) (.cst (.int 0))) (.bin .mul (.ix (.var 1) (.cst (.int 1))) (.bin .sub (.var 5) (.var 2))))) (.cons (.app 4 (.var 5)) .nil) .nil) (.cons (.kill [5]) .nil))
def b_law_due : Cmds := (.cons (.own 4 (.lst .nil)) (.cons (.for_ (.rng2 (.var 2) (.bin .add (.var 3) (.cst (.int 1)))) (.one 5) w_law_due_0) (.cons (.retM 4) .nil)))
abbrev r_law_due (fn : Nat → List D → R D) : List D → R D := runF fn fuel 6 true b_law_due
theorem r_law_due_eq (fn zs) : r_law_due fn zs = outO true (evCs fn fuel b_law_due (initE 6 zs)) := runF_eq _ _ _ _ _ _
theorem r_law_due_at (fn : Nat → List D → R D) (z0 z1 z2 z3 : D) : r_law_due fn [z0, z1, z2, z3] = outO true (evCs fn fuel b_law_due [some z0, some z1, some z2, some z3, none, none]) := r_law_due_eq fn _
def w_law_0 : Cmds := (.cons (.set 3 (.call 3 (.cons (.bin .fdiv (.ix (.var 1) (.var 2)) (.cst (.int 2))) .nil))) (.cons (.set 4 (.bin .add (.var 3) (.bin .mod (.bin .fdiv (.ix (.var 1) (.bin .add (.var 2) (.cst (.int 1)))) (.cst (.int 7))) (.cst (.int 40))))) (.cons (.tgt [7, 8] (.call 13 (.cons (.ix (.var 1) (.var 2)) (.cons (.ix (.var 1) (.bin .add (.var 2) (.cst (.int 1)))) .nil)))) (.cons (.set 5 (.call 14 (.cons (.var 7) (.cons (.var 8) (.cons (.var 3) (.cons (.var 4) .nil)))))) (.cons (.set 6 (.call 12 (.cons (.var 7) (.cons (.var 8) (.cons (.var 3) (.cons (.var 4) .nil)))))) (.cons (.if_ (.cmp .eq (.bi .len (.cons (.var 5) .nil)) (.cst (.int 0))) (.cons (.if_ (.notN (.var 6)) (.cons (.ret (.cst (.bl false))) .nil) .nil) .nil) (.cons (.if_ (.or_ (.not_ (.isi (.var 6) .tuple)) (.cmp .ne (.bi .len (.cons (.var 6) .nil)) (.cst (.int 2)))) (.cons (.ret (.cst (.bl false))) .nil) .nil) (.cons (.if_ (.or_ (.not_ (.call 4 (.cons (.ix (.var 6) (.cst (.int 0))) .nil))) (.not_ (.call 4 (.cons (.ix (.var 6) (.cst (.int 1))) .nil)))) (.cons (.ret (.cst (.bl false))) .nil) .nil) (.cons (.if_ (.cmp .ne (.var 5) (.lrng (.ix (.var 6) (.cst (.int 0))) (.bin .add (.ix (.var 6) (.cst (.int 1))) (.cst (.int 1))))) (.cons (.ret (.cst (.bl false))) .nil) .nil) .nil)))) (.cons (.kill [2, 3, 4, 5, 6, 7, 8]) .nil)))))))
def b_law : Cmds := (.cons (.set 1 (.bin .add (.bin .add (.lst (.cons (.cst (.int 17)) .nil)) (.bi .list (.cons (.var 0) .nil))) (.lst (.cons (.cst (.int 5)) .nil)))) (.cons (.for_ (.rng1 (.bin .sub (.bi .len (.cons (.var 1) .nil)) (.cst (.int 1)))) (.one 2) w_law_0) (.cons (.ret (.cst (.bl true))) .nil)))
abbrev r_law (fn : Nat → List D → R D) : List D → R D := runF fn fuel 9 false b_law
theorem r_law_eq (fn zs) : r_law fn zs = outO false (evCs fn fuel b_law (initE 9 zs)) := runF_eq _ _ _ _ _ _
theorem r_law_at (fn : Nat → List D → R D) (z0 : D) : r_law fn [z0] = outO false (evCs fn fuel b_law [some z0, none, none, none, none, none, none, none, none]) := r_law_eq fn _
def S_law_big (f : List D → R D) : Prop := ∀ c : Int, ∃ v : Int, f [.int c] = .ok (.int v)
theorem law_big_sp : S_law_big (r_law_big fn) := fun c => by
  have d3 : divOk 3 = true := by decide +kernel
  have p50 : powOk 10 50 = true := by decide +kernel
  have m2 : mulOk 2 100000000000000000000000000000000000000000000000000 = true := by decide +kernel
  rw [r_law_big_at]
  by_cases h0 : c.fmod 3 = 0
  · exact ⟨_, by simp [b_law_big, h0, d3]; rfl⟩
  · by_cases h1 : c.fmod 3 = 1
    · exact ⟨_, by simp [b_law_big, h1, d3]; rfl⟩
    · exact ⟨_, by simp [b_law_big, h0, h1, d3, p50, m2]; rfl⟩
def S_law_lines (f : List D → R D) : Prop := ∀ c d : Int, ∃ a b : Int × Int, f [.int c, .int d] = .ok (.tup [prI a, prI b]) ∧ a.1.natAbs ≤ 1000 ∧ a.2.natAbs ≤ 1000 ∧ b.1.natAbs ≤ 1000 ∧ b.2.natAbs ≤ 1000
theorem law_lines_sp : S_law_lines (r_law_lines fn) := fun c d => by
  have d3 : divOk 3 = true := by decide +kernel
  have d363 : divOk 363 = true := by decide +kernel
  have b1 := fmod_bounds (a := c.fdiv 3) (b := 121) (by decide)
  have b2 := fmod_bounds (a := c.fdiv 363) (b := 15) (by decide)
  have b3 := fmod_bounds (a := d.fdiv 3) (b := 121) (by decide)
  have b4 := fmod_bounds (a := d.fdiv 363) (b := 15) (by decide)
  have b5 := fmod_bounds (a := c) (b := 3) (by decide)
  rw [r_law_lines_at]
  by_cases h : d.fmod 3 = 1
  · exact ⟨((c.fdiv 3).fmod 121 - 60, (c.fdiv 363).fmod 15 - 7), ((c.fdiv 3).fmod 121 - 60 + c.fmod 3 - 1, (c.fdiv 363).fmod 15 - 7), by simp [b_law_lines, h, d3, d363, prI], by simp only; omega, by simp only; omega, by simp only; omega, by simp only; omega⟩
  · exact ⟨((c.fdiv 3).fmod 121 - 60, (c.fdiv 363).fmod 15 - 7), ((d.fdiv 3).fmod 121 - 60, (d.fdiv 363).fmod 15 - 7), by simp [b_law_lines, h, d3, d363, prI], by simp only; omega, by simp only; omega, by simp only; omega, by simp only; omega⟩
/-- where the one is no dearer -/
def gd (a b : Int × Int) (k : Nat) : Bool := decide (a.1 + a.2 * k ≤ b.1 + b.2 * k)
def S_law_due (f : List D → R D) : Prop := ∀ (a b : Int × Int) (lo : Int) (n : Nat), a.2.natAbs ≤ 1000 → b.2.natAbs ≤ 1000 → n ≤ 100 → f [prI a, prI b, .int lo, .int (lo + n)] = .ok (.lst (((List.range (n + 1)).filter (gd a b)).map fun k : Nat => D.int (lo + k)))
theorem law_due_sp : S_law_due (r_law_due fn) := fun a b lo n ha hb hn => by
  rw [r_law_due_at]
  have loop : ∀ (m k : Nat) (t : List D), k + m ≤ 200 → t.length + m ≤ 500 → forL (fun ρ x => thenO (bindT ρ (.one 5) x) ρ fun ρ' => evCs fn fuel w_law_due_0 ρ') ((List.range' k m).map fun j : Nat => D.int (lo + j)) [some (prI a), some (prI b), some (.int lo), some (.int (lo + n)), some (.lst t), none] = .nx [some (prI a), some (prI b), some (.int lo), some (.int (lo + n)), some (.lst (t ++ ((List.range' k m).filter (gd a b)).map fun j : Nat => D.int (lo + j))), none] := fun m => by
    induction m with
    | zero => intro k t _ _; simp
    | succ m ih =>
      intro k t hk ht
      have e : lo + (k : Int) - lo = k := by omega
      have m1 : mulOk a.2 (k : Int) = true := mulOk_lit (by omega) (by omega) (by omega) (by omega)
      have m2 : mulOk b.2 (k : Int) = true := mulOk_lit (by omega) (by omega) (by omega) (by omega)
      have l2 : t.length < 16777216 := by omega
      rw [List.range'_succ, List.map_cons]
      by_cases h : a.1 + a.2 * k ≤ b.1 + b.2 * k
      · rw [forL_nx (ρ' := [some (prI a), some (prI b), some (.int lo), some (.int (lo + n)), some (.lst (t ++ [.int (lo + k)])), none]), ih (k + 1) _ (by omega) (by simp; omega), List.filter_cons_of_pos (show gd a b k = true from decide_eq_true h)]
        · simp
        · generalize hA : prI a = A at *
          generalize hB : prI b = B at *
          have a0 : ixD A (.int 0) = .ok (.int a.1) := by rw [← hA]; simp
          have a1 : ixD A (.int 1) = .ok (.int a.2) := by rw [← hA]; simp
          have b0 : ixD B (.int 0) = .ok (.int b.1) := by rw [← hB]; simp
          have b1 : ixD B (.int 1) = .ok (.int b.2) := by rw [← hB]; simp
          simp [w_law_due_0, a0, a1, b0, b1, e, m1, m2, h, l2]
      · rw [forL_nx (ρ' := [some (prI a), some (prI b), some (.int lo), some (.int (lo + n)), some (.lst t), none]), ih (k + 1) _ (by omega) (by omega), List.filter_cons_of_neg (show ¬ gd a b k = true from fun z => h (of_decide_eq_true z))]
        generalize hA : prI a = A at *
        generalize hB : prI b = B at *
        have a0 : ixD A (.int 0) = .ok (.int a.1) := by rw [← hA]; simp
        have a1 : ixD A (.int 1) = .ok (.int a.2) := by rw [← hA]; simp
        have b0 : ixD B (.int 0) = .ok (.int b.1) := by rw [← hB]; simp
        have b1 : ixD B (.int 1) = .ok (.int b.2) := by rw [← hB]; simp
        simp [w_law_due_0, a0, a1, b0, b1, e, m1, m2, h]
  have lp := loop (n + 1) 0 [] (by omega) (by simp; omega)
  rw [← List.range_eq_range', List.nil_append] at lp
  refine out_of (go_own (z := .lst []) rfl (go_for (xs := (List.range (n + 1)).map fun j : Nat => D.int (lo + j)) ?_ lp (go_retM rfl)))
  have tn : (lo + (n : Int) + 1 - lo).toNat = n + 1 := by omega
  simp [tn, upto_eq]
theorem upto_pl : ∀ (n : Nat) (a : Int), D.plL (upto a n) = true ∧ PyData.depthAll (D.pyL (upto a n)) = 0
  | 0, a => ⟨rfl, rfl⟩
  | n + 1, a => by
    obtain ⟨h1, h2⟩ := upto_pl n (a + 1)
    rw [upto]
    exact ⟨by simp [D.plL, D.pl, h1], by simp [D.pyL, D.py, PyData.depthAll, PyData.depth, h2]⟩
/-- the good ones stand between the two -/
theorem good_some {a b : Int × Int} {n : Nat} {F L : Int} (h : noDear (a.1 - b.1) (a.2 - b.2) n = some (F, L)) (lo : Int) : 0 ≤ F ∧ F ≤ L ∧ L ≤ n ∧ ((List.range (n + 1)).filter (gd a b)).map (fun k : Nat => D.int (lo + k)) = upto (lo + F) (L - F + 1).toNat := by
  have ok := noDear_ok (a.1 - b.1) (a.2 - b.2) n (by omega)
  rw [h] at ok
  obtain ⟨h1, h2, h3, h4⟩ := ok
  refine ⟨h1, h2, h3, ?_⟩
  have g : ∀ k : Nat, k ≤ n → gd a b k = decide (F ≤ k ∧ (k : Int) ≤ L) := fun k hk => by
    have := h4 k (by omega) (by omega)
    unfold gd
    rw [Int.sub_mul] at this
    generalize a.2 * (k : Int) = x at *
    generalize b.2 * (k : Int) = y at *
    by_cases q : F ≤ (k : Int) ∧ (k : Int) ≤ L
    · rw [decide_eq_true q, decide_eq_true (by have := this.mpr q; omega)]
    · rw [decide_eq_false q, decide_eq_false (fun z => q (this.mp (by omega)))]
  have e : (List.range (n + 1)).filter (gd a b) = List.range' F.toNat (L - F + 1).toNat := by
    rw [List.filter_congr (fun k hk => g k (by have := List.mem_range.mp hk; omega))]
    obtain ⟨f, rfl⟩ : ∃ f : Nat, F = f := ⟨F.toNat, by omega⟩
    obtain ⟨l, rfl⟩ : ∃ l : Nat, L = l := ⟨L.toNat, by omega⟩
    have sp : List.range (n + 1) = List.range' 0 f ++ (List.range' f (l - f + 1) ++ List.range' (l + 1) (n - l)) := by
      have e1 := List.range'_append_1 (s := f) (m := l - f + 1) (n := n - l)
      rw [show f + (l - f + 1) = l + 1 by omega] at e1
      rw [e1]
      have e2 := List.range'_append_1 (s := 0) (m := f) (n := l - f + 1 + (n - l))
      rw [Nat.zero_add] at e2
      rw [e2, List.range_eq_range']
      congr 1; omega
    rw [sp, List.filter_append, List.filter_append]
    have f1 : (List.range' 0 f).filter (fun k : Nat => decide ((f : Int) ≤ k ∧ (k : Int) ≤ l)) = [] := List.filter_eq_nil_iff.mpr fun k hk => by have := List.mem_range'_1.mp hk; simp; omega
    have f3 : (List.range' (l + 1) (n - l)).filter (fun k : Nat => decide ((f : Int) ≤ k ∧ (k : Int) ≤ l)) = [] := List.filter_eq_nil_iff.mpr fun k hk => by have := List.mem_range'_1.mp hk; simp; omega
    have f2 : (List.range' f (l - f + 1)).filter (fun k : Nat => decide ((f : Int) ≤ k ∧ (k : Int) ≤ l)) = List.range' f (l - f + 1) := List.filter_eq_self.mpr fun k hk => by have := List.mem_range'_1.mp hk; simp; omega
    rw [f1, f2, f3, List.nil_append, List.append_nil]
    congr 1; omega
  rw [e, upto_eq, List.range'_eq_map_range, List.map_map]
  refine List.map_congr_left fun k _ => ?_
  show D.int (lo + ((F.toNat + k : Nat) : Int)) = D.int (lo + F + (k : Int))
  congr 1; omega
theorem good_none {a b : Int × Int} {n : Nat} (h : noDear (a.1 - b.1) (a.2 - b.2) n = none) : (List.range (n + 1)).filter (gd a b) = [] := by
  have ok := noDear_ok (a.1 - b.1) (a.2 - b.2) n (by omega)
  rw [h] at ok
  refine List.filter_eq_nil_iff.mpr fun k hk => ?_
  have := ok k (by omega) (by have := List.mem_range.mp hk; omega)
  rw [Int.sub_mul] at this
  intro z
  have z := of_decide_eq_true z
  omega
theorem law_sp (h_no_dearer : S_no_dearer (fn 12)) (h_law_big : S_law_big (fn 3)) (h_law_whole : S_law_whole (fn 4)) (h_law_lines : S_law_lines (fn 13)) (h_law_due : S_law_due (fn 14)) : S_law (r_law fn) := fun ns hl _ => by
  rw [r_law_at]
  have d2 : divOk 2 = true := by decide +kernel
  have d7 : divOk 7 = true := by decide +kernel
  have hH : 2 ^ 20 ≤ Hg := le_Hg (by decide)
  have turn : ∀ (NS : D) (cs : List Int) (k : Nat), k + 1 < cs.length → evCs fn fuel w_law_0 [some NS, some (.lst (cs.map .int)), some (.int k), none, none, none, none, none, none] = .nx [some NS, some (.lst (cs.map .int)), none, none, none, none, none, none, none] := fun NS cs k hk => by
    have i0 : ixD (.lst (cs.map .int)) (.int (k : Int)) = .ok (.int cs[k]) := ix_lst (by omega) (by simp [show k < cs.length by omega])
    have i1 : ixD (.lst (cs.map .int)) (.int ((k : Int) + 1)) = .ok (.int cs[k + 1]) := ix_lst (by omega) (by
      have : ((k : Int) + 1).toNat = k + 1 := by omega
      rw [this]; simp [hk])
    generalize cs[k] = c at i0
    generalize cs[k + 1] = d at i1
    obtain ⟨lo, elo⟩ := h_law_big (c.fdiv 2)
    have fb := fmod_bounds (a := d.fdiv 7) (b := 40) (by decide)
    obtain ⟨n, hn, n40⟩ : ∃ n : Nat, (d.fdiv 7).fmod 40 = n ∧ n ≤ 39 := ⟨((d.fdiv 7).fmod 40).toNat, by omega, by omega⟩
    obtain ⟨a, b, el, a1, a2, b1, b2⟩ := h_law_lines c d
    have ed := h_law_due a b lo n a2 b2 (by omega)
    have en := h_no_dearer a b lo (lo + n) (by omega) (by omega)
    rw [show lo + (n : Int) - lo = n by omega] at en
    cases hnd : noDear (a.1 - b.1) (a.2 - b.2) (n : Int) with
    | none =>
      rw [good_none hnd] at ed
      rw [hnd] at en
      have ed : fn 14 [prI a, prI b, .int lo, .int (lo + n)] = .ok (.lst []) := ed
      have en : fn 12 [prI a, prI b, .int lo, .int (lo + n)] = .ok .non := en
      generalize prI a = PA at *
      generalize prI b = PB at *
      generalize D.lst (cs.map .int) = C at *
      simp [w_law_0, i0, i1, d2, d7, elo, hn, el, ed, en, isNon]
    | some q =>
      obtain ⟨F, L⟩ := q
      obtain ⟨g1, g2, g3, g4⟩ := good_some hnd lo
      rw [g4] at ed
      rw [hnd] at en
      have en : fn 12 [prI a, prI b, .int lo, .int (lo + n)] = .ok (.tup [.int (lo + F), .int (lo + L)]) := en
      have w1 := h_law_whole (lo + F)
      have w2 := h_law_whole (lo + L)
      have tn : (lo + L + 1 - (lo + F)).toNat = (L - F + 1).toNat := by omega
      have ul : (upto (lo + F) (L - F + 1).toNat).length = (L - F + 1).toNat := by rw [upto_eq]; simp
      have nz : ¬ (((upto (lo + F) (L - F + 1).toNat).length : Nat) : Int) = 0 := by rw [ul]; omega
      obtain ⟨p1, p2⟩ := upto_pl (L - F + 1).toNat (lo + F)
      have ne : cmpD .ne (.lst (upto (lo + F) (L - F + 1).toNat)) (.lst (upto (lo + F) (L - F + 1).toNat)) = .ok (.bl false) := by
        rw [cmp_ne, eqD_refl (by simp [D.pl, p1]) (by simp [D.py, PyData.depth, p2])]; rfl
      have ln : biD .len [.lst (upto (lo + F) (L - F + 1).toNat)] = .ok (.int (upto (lo + F) (L - F + 1).toNat).length) := by simp
      have sm : lo + L + 1 - (lo + F) ≤ 16777216 := by omega
      have une : ¬ upto (lo + F) (L - F + 1).toNat = [] := fun z => by rw [z] at nz; simp at nz
      generalize hm : (L - F + 1).toNat = m at *
      generalize hU : upto (lo + F) m = U at *
      generalize prI a = PA at *
      generalize prI b = PB at *
      generalize D.lst (cs.map .int) = C at *
      refine go_set (z := .int lo) (by simp [i0, d2, elo]) (go_set (z := .int (lo + n)) (by simp [i1, d7, hn]) (go_tgt (z := .tup [PA, PB]) (ρ' := [some NS, some C, some (.int k), some (.int lo), some (.int (lo + n)), none, none, some PA, some PB]) (by simp [i0, i1, el]) rfl (go_set (z := .lst U) (by simp [ed]) (go_set (z := .tup [.int (lo + F), .int (lo + L)]) (by simp [en]) ?_))))
      refine go_fa (ρ' := [some NS, some C, some (.int k), some (.int lo), some (.int (lo + n)), some (.lst U), some (.tup [.int (lo + F), .int (lo + L)]), some PA, some PB]) (by simp [une]) (go_f0 (by simp [isiD]) (go_f0 (by simp [w1, w2]) (go_f0 ?_ rfl))) rfl
      simp [tn, sm, hU, ne]
  have l1 : 1 + ns.length + 1 ≤ 16777216 := by omega
  have sm : small62 ((17 :: ns ++ [5]).length - 1 : Int) = true := small62_of (by simp; omega) (by simp; omega)
  have cat : ev fn (.bin .add (.bin .add (.lst (.cons (.cst (.int 17)) .nil)) (.bi .list (.cons (.var 0) .nil))) (.lst (.cons (.cst (.int 5)) .nil))) [some (.lst (ns.map .int)), none, none, none, none, none, none, none, none] = .ok (.lst ((17 :: ns ++ [5]).map .int)) := by
    have bl : biD .list [.lst (ns.map .int)] = .ok (.lst (ns.map .int)) := rfl
    have ln : (ns.map D.int).length = ns.length := by simp
    rw [List.map_append, List.map_cons]
    generalize ns.map D.int = X at *
    have l3 : 1 + X.length ≤ 16777216 := by omega
    have l4 : X.length + 1 ≤ 16777216 := by omega
    have l5 : X.length + 1 + 1 ≤ 16777216 := by omega
    have l6 : X.length ≤ 16777214 := by omega
    have l7 : X.length ≤ 16777215 := by omega
    simp [bl, l3, l4, l5, l6, l7]
  generalize hcs : 17 :: ns ++ [5] = cs at *
  have cl : cs.length = ns.length + 2 := by rw [← hcs]; simp
  have loop : ∀ m k : Nat, k + m + 1 = cs.length → forL (fun ρ x => thenO (bindT ρ (.one 2) x) ρ fun ρ' => evCs fn fuel w_law_0 ρ') ((List.range' k m).map fun j : Nat => D.int j) [some (.lst (ns.map .int)), some (.lst (cs.map .int)), none, none, none, none, none, none, none] = .nx [some (.lst (ns.map .int)), some (.lst (cs.map .int)), none, none, none, none, none, none, none] := fun m => by
    induction m with
    | zero => exact fun k _ => rfl
    | succ m ih =>
      intro k hk
      rw [List.range'_succ, List.map_cons, forL_nx (ρ' := [some (.lst (ns.map .int)), some (.lst (cs.map .int)), none, none, none, none, none, none, none]), ih (k + 1) (by omega)]
      exact turn _ cs k (by omega)
  have lp := loop (cs.length - 1) 0 (by omega)
  rw [← List.range_eq_range'] at lp
  refine out_of (go_set (z := .lst (cs.map .int)) cat (go_for (xs := (List.range (cs.length - 1)).map fun j : Nat => D.int j) ?_ lp (go_ret rfl)))
  have tn : ((cs.length : Int) - 1).toNat = cs.length - 1 := by omega
  generalize D.lst (ns.map .int) = NS at *
  simp [upto_eq, tn]
end Den
namespace LawK03
open PySem PySem.Spec PyProof.Rows L2 Den
def d_down : DefM := ⟨1, "down", "down", ["a", "b"], ["a", "b"], [], false, b_down⟩
def d_up : DefM := ⟨2, "up", "up", ["a", "b"], ["a", "b"], [], false, b_up⟩
def d_no_dearer : DefM := ⟨12, "no_dearer", "no_dearer", ["one", "other", "low", "high"], ["one", "other", "low", "high", "price", "step", "first", "last"], [], false, b_no_dearer⟩
def d_law_big : DefM := ⟨3, "_law_big", "_law_big", ["cell"], ["cell"], [], false, b_law_big⟩
def d_law_whole : DefM := ⟨4, "_law_whole", "_law_whole", ["found"], ["found"], [], false, b_law_whole⟩
def d_law_lines : DefM := ⟨13, "_law_lines", "_law_lines", ["cell", "next_cell"], ["cell", "next_cell", "one", "other"], [], false, b_law_lines⟩
def d_law_due : DefM := ⟨14, "_law_due", "_law_due", ["one", "other", "low", "high"], ["one", "other", "low", "high", "good", "x"], [4], true, b_law_due⟩
def d_law : DefM := ⟨305, "law", "law", ["script"], ["script", "cells", "k", "low", "high", "due", "found", "one", "other"], [], false, b_law⟩
def topS (i : Nat) : Stmt := PySem.Challenge.pw_offerhouse_k03_no_dearer_near.main.body.getD i (.Pass ⟨0, 0, 0, 0⟩)
def top : Top := ⟨[], ["bool", "int", "isinstance", "len", "list", "max", "min", "range", "tuple"], [], [], [], [], []⟩
def tab : TabR := ⟨[d_down, d_up, d_no_dearer, d_law_big, d_law_whole, d_law_lines, d_law_due, d_law], [], []⟩
theorem t_ok : tabOk tab top = true := by decide +kernel
theorem c_down : chk1 tab top d_down (topS 1) = true := by decide +kernel
theorem c_up : chk1 tab top d_up (topS 2) = true := by decide +kernel
theorem c_no_dearer : chk1 tab top d_no_dearer (topS 3) = true := by decide +kernel
theorem c_law_big : chk1 tab top d_law_big (topS 5) = true := by decide +kernel
theorem c_law_whole : chk1 tab top d_law_whole (topS 6) = true := by decide +kernel
theorem c_law_lines : chk1 tab top d_law_lines (topS 7) = true := by decide +kernel
theorem c_law_due : chk1 tab top d_law_due (topS 8) = true := by decide +kernel
theorem c_law : chk1 tab top d_law (topS 9) = true := by decide +kernel
abbrev F (n : Nat) : Nat → List D → R D := fnR tab fuel n
theorem u_down (n : Nat) : F (n + 1) 1 = r_down (F n) := rfl
theorem u_up (n : Nat) : F (n + 1) 2 = r_up (F n) := rfl
theorem u_no_dearer (n : Nat) : F (n + 1) 12 = r_no_dearer (F n) := rfl
theorem u_law_big (n : Nat) : F (n + 1) 3 = r_law_big (F n) := rfl
theorem u_law_whole (n : Nat) : F (n + 1) 4 = r_law_whole (F n) := rfl
theorem u_law_lines (n : Nat) : F (n + 1) 13 = r_law_lines (F n) := rfl
theorem u_law_due (n : Nat) : F (n + 1) 14 = r_law_due (F n) := rfl
theorem u_law (n : Nat) : F (n + 1) 305 = r_law (F n) := rfl
theorem sp_down (n : Nat) (h : 1 ≤ n) : S_down (F n 1) := by
  obtain ⟨j, rfl⟩ : ∃ j, n = j + 1 := ⟨n - 1, by omega⟩
  rw [u_down]; exact down_sp (fn := F j)
theorem sp_up (n : Nat) (h : 1 ≤ n) : S_up (F n 2) := by
  obtain ⟨j, rfl⟩ : ∃ j, n = j + 1 := ⟨n - 1, by omega⟩
  rw [u_up]; exact up_sp (fn := F j)
theorem sp_no_dearer (n : Nat) (h : 2 ≤ n) : S_no_dearer (F n 12) := by
  obtain ⟨j, rfl⟩ : ∃ j, n = j + 1 := ⟨n - 1, by omega⟩
  rw [u_no_dearer]; exact no_dearer_sp (fn := F j) (sp_down j (by omega)) (sp_up j (by omega))
theorem sp_law_big (n : Nat) (h : 1 ≤ n) : S_law_big (F n 3) := by
  obtain ⟨j, rfl⟩ : ∃ j, n = j + 1 := ⟨n - 1, by omega⟩
  rw [u_law_big]; exact law_big_sp (fn := F j)
theorem sp_law_whole (n : Nat) (h : 1 ≤ n) : S_law_whole (F n 4) := by
  obtain ⟨j, rfl⟩ : ∃ j, n = j + 1 := ⟨n - 1, by omega⟩
  rw [u_law_whole]; exact law_whole_sp (fn := F j)
theorem sp_law_lines (n : Nat) (h : 1 ≤ n) : S_law_lines (F n 13) := by
  obtain ⟨j, rfl⟩ : ∃ j, n = j + 1 := ⟨n - 1, by omega⟩
  rw [u_law_lines]; exact law_lines_sp (fn := F j)
theorem sp_law_due (n : Nat) (h : 1 ≤ n) : S_law_due (F n 14) := by
  obtain ⟨j, rfl⟩ : ∃ j, n = j + 1 := ⟨n - 1, by omega⟩
  rw [u_law_due]; exact law_due_sp (fn := F j)
theorem sp_law (n : Nat) (h : 3 ≤ n) : S_law (F n 305) := by
  obtain ⟨j, rfl⟩ : ∃ j, n = j + 1 := ⟨n - 1, by omega⟩
  rw [u_law]; exact law_sp (fn := F j) (sp_no_dearer j (by omega)) (sp_law_big j (by omega)) (sp_law_whole j (by omega)) (sp_law_lines j (by omega)) (sp_law_due j (by omega))
theorem math (ns : List Int) (hl : ns.length ≤ 63) (hb : ∀ z ∈ ns, Builtin.Int.intBits z ≤ 1048576) : F 3 305 [.lst (ns.map .int)] = .ok (.bl true) := sp_law 3 (Nat.le_refl _) ns hl hb
theorem all_mk {P : Program} {w : World} {K : PySem.W.Frag} {mg : Str → Option Value} {fa : Addr} (hfa : mg "law" = some (.ref fa)) (p_down : PlD K mg d_down (topS 1)) (p_up : PlD K mg d_up (topS 2)) (p_no_dearer : PlD K mg d_no_dearer (topS 3)) (p_law_big : PlD K mg d_law_big (topS 5)) (p_law_whole : PlD K mg d_law_whole (topS 6)) (p_law_lines : PlD K mg d_law_lines (topS 7)) (p_law_due : PlD K mg d_law_due (topS 8)) (p_law : PlD K mg d_law (topS 9)) (z_bool : mg "bool" = none) (z_int : mg "int" = none) (z_isinstance : mg "isinstance" = none) (z_len : mg "len" = none) (z_list : mg "list" = none) (z_max : mg "max" = none) (z_min : mg "min" = none) (z_range : mg "range" = none) (z_tuple : mg "tuple" = none)     (o_all : (∀ c C, clsAt K c = some C → c ∈ top.cls) ∧ ObjsD K mg top.isc) :
    ∃ fd : FuncData, (∀ (s : Shared) (v : Value), BindsTo s fd ⟨[v], []⟩ [("script", v)]) ∧ ∀ base : Heap, K.In base → base.Ns mainGlobals mg → FnOk P w K mg base (L2.CX P w) 6 fa fd ["script"] (spL K (F 3 305)) :=
  law_fn (t := tab) (o := top) (f := 305) (d := d_law) 2 rfl rfl rfl (List.forall_mem_cons.mpr ⟨z_bool, (List.forall_mem_cons.mpr ⟨z_int, (List.forall_mem_cons.mpr ⟨z_isinstance, (List.forall_mem_cons.mpr ⟨z_len, (List.forall_mem_cons.mpr ⟨z_list, (List.forall_mem_cons.mpr ⟨z_max, (List.forall_mem_cons.mpr ⟨z_min, (List.forall_mem_cons.mpr ⟨z_range, (List.forall_mem_cons.mpr ⟨z_tuple, (fun _ h => nomatch h)⟩)⟩)⟩)⟩)⟩)⟩)⟩)⟩)⟩) (fun _ h => nomatch h) (fun _ h => nomatch h) (fun _ h => nomatch h) (fun _ h => nomatch h) ⟨t_ok, (List.forall_mem_cons.mpr ⟨⟨_, c_down, p_down⟩, (List.forall_mem_cons.mpr ⟨⟨_, c_up, p_up⟩, (List.forall_mem_cons.mpr ⟨⟨_, c_no_dearer, p_no_dearer⟩, (List.forall_mem_cons.mpr ⟨⟨_, c_law_big, p_law_big⟩, (List.forall_mem_cons.mpr ⟨⟨_, c_law_whole, p_law_whole⟩, (List.forall_mem_cons.mpr ⟨⟨_, c_law_lines, p_law_lines⟩, (List.forall_mem_cons.mpr ⟨⟨_, c_law_due, p_law_due⟩, (List.forall_mem_cons.mpr ⟨⟨_, c_law, p_law⟩, (fun _ h => nomatch h)⟩)⟩)⟩)⟩)⟩)⟩)⟩)⟩), (fun _ h => nomatch h), (fun _ h => nomatch h), o_all.1, o_all.2⟩ hfa
end LawK03
open PySem PySem.W PyProof.Rows
set_option maxHeartbeats 0 in
theorem PySem.Challenge.cw_offerhouse_k03_no_dearer_near_holds : PySem.Challenge.rw_offerhouse_k03_no_dearer_near.Holds := by
  w_on; o_law; k_head; (case hw => w_witness2)
  k_fill
  refine L2.walk_ofB (l := PySem.Challenge.rw_offerhouse_k03_no_dearer_near) (n := 63) (k := 6) (x := "script") (CX := fun w => L2.CX PySem.Challenge.rw_offerhouse_k03_no_dearer_near.prog w) (sp := fun w => Den.spL _ (LawK03.F 3 305)) rfl (by decide) rfl ⟨rfl, by decide, by decide⟩ (fun w h Y => PySem.W.kIn_of Y) ?F (fun w H a ns hl hb _ hS => Den.sp_law hS (LawK03.math ns hl hb)) (fun _ _ _ _ _ h => Den.cx_false h)
  case F =>
    intro w mg fa h KX G hmg
    refine' LawK03.all_mk hmg ?p_down ?p_up ?p_no_dearer ?p_law_big ?p_law_whole ?p_law_lines ?p_law_due ?p_law ?z_bool ?z_int ?z_isinstance ?z_len ?z_list ?z_max ?z_min ?z_range ?z_tuple ?o_all
    case p_down =>
      refine' Den.placed_mk KX G "down" ["a", "b"] rfl rfl rfl ?a_down ?l_down ?c_down ?k_down ?b_down
      (case a_down => k_is); (case l_down => k_is); (case c_down => k_is); (case k_down => k_is)
      (case b_down => intro us hl; match us, hl with | [_, _], _ => rfl)
    case p_up =>
      refine' Den.placed_mk KX G "up" ["a", "b"] rfl rfl rfl ?a_up ?l_up ?c_up ?k_up ?b_up
      (case a_up => k_is); (case l_up => k_is); (case c_up => k_is); (case k_up => k_is)
      (case b_up => intro us hl; match us, hl with | [_, _], _ => rfl)
    case p_no_dearer =>
      refine' Den.placed_mk KX G "no_dearer" ["one", "other", "low", "high"] rfl rfl rfl ?a_no_dearer ?l_no_dearer ?c_no_dearer ?k_no_dearer ?b_no_dearer
      (case a_no_dearer => k_is); (case l_no_dearer => k_is); (case c_no_dearer => k_is); (case k_no_dearer => k_is)
      (case b_no_dearer => intro us hl; match us, hl with | [_, _, _, _], _ => rfl)
    case p_law_big =>
      refine' Den.placed_mk KX G "_law_big" ["cell"] rfl rfl rfl ?a_law_big ?l_law_big ?c_law_big ?k_law_big ?b_law_big
      (case a_law_big => k_is); (case l_law_big => k_is); (case c_law_big => k_is); (case k_law_big => k_is)
      (case b_law_big => intro us hl; match us, hl with | [_], _ => rfl)
    case p_law_whole =>
      refine' Den.placed_mk KX G "_law_whole" ["found"] rfl rfl rfl ?a_law_whole ?l_law_whole ?c_law_whole ?k_law_whole ?b_law_whole
      (case a_law_whole => k_is); (case l_law_whole => k_is); (case c_law_whole => k_is); (case k_law_whole => k_is)
      (case b_law_whole => intro us hl; match us, hl with | [_], _ => rfl)
    case p_law_lines =>
      refine' Den.placed_mk KX G "_law_lines" ["cell", "next_cell"] rfl rfl rfl ?a_law_lines ?l_law_lines ?c_law_lines ?k_law_lines ?b_law_lines
      (case a_law_lines => k_is); (case l_law_lines => k_is); (case c_law_lines => k_is); (case k_law_lines => k_is)
      (case b_law_lines => intro us hl; match us, hl with | [_, _], _ => rfl)
    case p_law_due =>
      refine' Den.placed_mk KX G "_law_due" ["one", "other", "low", "high"] rfl rfl rfl ?a_law_due ?l_law_due ?c_law_due ?k_law_due ?b_law_due
      (case a_law_due => k_is); (case l_law_due => k_is); (case c_law_due => k_is); (case k_law_due => k_is)
      (case b_law_due => intro us hl; match us, hl with | [_, _, _, _], _ => rfl)
    case p_law =>
      refine' Den.placed_mk KX G "law" ["script"] rfl rfl rfl ?a_law ?l_law ?c_law ?k_law ?b_law
      (case a_law => k_is); (case l_law => k_is); (case c_law => k_is); (case k_law => k_is)
      (case b_law => intro us hl; match us, hl with | [_], _ => rfl)
    (case z_bool => exact Den.none_mk KX G (by k_is))
    (case z_int => exact Den.none_mk KX G (by k_is))
    (case z_isinstance => exact Den.none_mk KX G (by k_is))
    (case z_len => exact Den.none_mk KX G (by k_is))
    (case z_list => exact Den.none_mk KX G (by k_is))
    (case z_max => exact Den.none_mk KX G (by k_is))
    (case z_min => exact Den.none_mk KX G (by k_is))
    (case z_range => exact Den.none_mk KX G (by k_is))
    (case z_tuple => exact Den.none_mk KX G (by k_is))
    case o_all =>
      refine' Den.cls_mk KX G ?o0 ?o1 ?o2 ?o3 ?o4
      (case o0 => k_is); (case o1 => k_is); (case o2 => k_is); (case o3 => kernel_rfl); (case o4 => kernel_rfl)
