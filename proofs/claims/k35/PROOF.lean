import PyProof.Rows.All
import Wide.All
import OpenK.AllK
import Wide.FinOn
import HandS.ForMost
import HandS.ForExc
import HandS.Deep
import HandS.Evl
import KE.KDictKeyed
import KE.KDictWalk
import HandS.TupAny
import HandS.TupMul
import HandS.IsInst
import HandS.Defaults
import HandS.CallSlots
import HandS.MakeKwOnly
import HandS.Property
import KE.GoesNew
import HandS.OwnEq
import HandS.Ends
import HandS.ExcField
import HandS.ExcInit
import HandS.TryOnly
import KE.KExcSuper
import KE.KIndexOf
import HandS.Conv
import HandS.Style
import KE.SortData
import KE.KDictDisplayH
import KE.KItem
import KE.RegKSuper
import PySem.Challenge.RW_wireclaims_k35_whole_alike_shown
set_option Elab.async false
set_option linter.all false
set_option maxRecDepth 100000
namespace BV
open PySem L2
open Evl (Ex)

/-- data by value -/
inductive D where
  | non | bl (b : Bool) | int (i : Int) | str (x : Str)
  | tup (ds : List D) | lst (ds : List D) | dct (ks vs : List D) | ins (c : Nat) (fs : List D) | scr (ns : List Int) | fn (i : Nat) | drw (ns : List Int)

inductive R (α : Type) where
  | ok (a : α) | err (c : Nat) (fs : List D) | stuck | any (k : Int → R α)
def R.bind {α β : Type} (r : R α) (f : α → R β) : R β := match r with
  | .ok a => f a
  | .err c fs => .err c fs
  | .stuck => .stuck
  | .any k => .any fun i => (k i).bind f
instance : Monad R where
  pure := .ok
  bind := R.bind

structure Tb where
  prog : Program
  w : World
  mg : Str → Option Value
  base : Heap
  K : PySem.W.Frag
  cls : Nat → Addr
  flds : Nat → List Str
  slf : Addr

abbrev AP := Addr → Prop
/-! ### keys of dicts -/
mutual
def D.toK : D → Option NestedKey
  | .non => some .none
  | .bl b => some (.num (if b = true then 1 else 0))
  | .int i => some (.num i)
  | .str x => some (.text x)
  | .tup ds => (D.toKs ds).map .tup
  | _ => none
def D.toKs : List D → Option (List NestedKey)
  | [] => some []
  | d :: ds => match D.toK d, D.toKs ds with
    | some p, some ps => some (p :: ps)
    | _, _ => none
end
/-- a key that is a tuple -/
def isTK : NestedKey → Bool
  | .tup ks => decide (NestedKey.depth (.tup ks) ≤ 8)
  | _ => false
/-- the entries of a dict: the key by value, the key, the value -/
abbrev En := NestedKey × V × V
/-- with the dict's epoch -/
abbrev Es := List En × Nat
/-- the object of a dict: its entries -/
def DictO (w : World) (a : Addr) (es : Es) : HO := .ext fun h => (a == sysModules) = false ∧ ∃ o ea, h.get? a = some o ∧ o.ExactDict ∧ o.data = .dict ea es.2 ∧
  Paired (fun (e : En) (x : DictEntry) => x.hash = NestedKey.hash w e.1 ∧ RelV e.2.1 x.key ∧ RelV e.2.2 x.val) es.1 ea.toList
/-- the keys of a dict -/
structure KOk (ks : List D) (ns : List NestedKey) : Prop where
  eq : ks.map D.toK = ns.map some
  nd : ns.Nodup
  tk : (∀ k ∈ ns, isTK k = true) ∨ ∀ k ∈ ns, isTK k = false ∧ NestedKey.depth k = 0
  le : ks.length ≤ sizeLine

/-- the object of the draws: the script and how many were drawn, any number -/
def DrwO (a b : Addr) : HO := .ext fun h => ∃ (n : Int) (t : Nat) (k : Nat), h.get? a = some { cls := .type "list", data := .seq #[.ref b, .int n t] k }
/-- the script -/
def ScrAt (K : PySem.W.Frag) (H : Hp) (a : Addr) (ns : List Int) : Prop := (∃ o, H a = some (.frz o (.lst (ns.map V.int)))) ∨
  ∃ (o : Obj) (its : Array Value) (n : Nat), K.lookup a = some o ∧ o.cls = .type "list" ∧ o.dict = none ∧ o.data = .seq its n ∧ its.size ≤ sizeLine ∧ Vals (ns.map V.int) its.toList
theorem ScrAt.sq {K : PySem.W.Frag} {H : Hp} {a : Addr} {ns : List Int} (h : ScrAt K H a ns) : SqL K H a (ns.map V.int) := by
  rcases h with h | h
  · exact .inl (.inr h)
  · exact .inr h
theorem ScrAt.of {K : PySem.W.Frag} {H : Hp} {a : Addr} {ns : List Int} (ho : Only H) (h : SqL K H a (ns.map V.int)) : ScrAt K H a ns := by
  rcases h with (h | h) | h
  · rcases ho a with z | ⟨o, xs, z⟩
    · rw [h] at z; cases z
    · rw [h] at z; cases z
  · exact .inl h
  · exact .inr h
mutual
def Den (T : Tb) (O : AP) (H : Hp) : D → V → Prop
  | .non, v => v = .non
  | .bl b, v => v = .bl b
  | .int i, v => v = .int i
  | .str x, v => v = .str x
  | .tup ds, v => ∃ a vs, v = .ref a ∧ SqT T.K H a vs ∧ Dens T O H ds vs
  | .lst ds, v => ∃ a vs, v = .ref a ∧ H a = some (.lst vs) ∧ ¬ O a ∧ Dens T O H ds vs
  | .dct ks ds, v => ∃ a es, v = .ref a ∧ H a = some (DictO T.w a es) ∧ ¬ O a ∧ KOk ks (es.1.map fun e => e.1) ∧ Dens T O H ks (es.1.map fun e => e.2.1) ∧ Dens T O H ds (es.1.map fun e => e.2.2)
  | .fn i, v => v = .ref (T.cls i)
  | .scr ns, v => ∃ a, v = .ref a ∧ ScrAt T.K H a ns
  | .drw ns, v => ∃ a b, v = .ref a ∧ H a = some (DrwO a b) ∧ ¬ O a ∧ ScrAt T.K H b ns
  | .ins c fs, v => ∃ a dx vs, v = .ref a ∧ H a = some (.ins (T.cls c) dx ((T.flds c).zip vs)) ∧ vs.length = (T.flds c).length ∧ ¬ O a ∧ Dens T O H fs vs
def Dens (T : Tb) (O : AP) (H : Hp) : List D → List V → Prop
  | [], vs => vs = []
  | d :: ds, vs => ∃ v r, vs = v :: r ∧ Den T O H d v ∧ Dens T O H ds r
end

section
variable {T : Tb} {O O' : AP} {H H' : Hp}
theorem sqt_ex {K : PySem.W.Frag} {a : Addr} {xs : List V} (e : Ex H H') (h : SqT K H a xs) : SqT K H' a xs := Evl.ex_t e h
theorem ScrAt.mono {K : PySem.W.Frag} {a : Addr} {ns : List Int} (h : ScrAt K H a ns) (e : Ex H H') : ScrAt K H' a ns := by
  rcases h with ⟨o, h⟩ | h
  · exact .inl ⟨o, e _ _ h⟩
  · exact .inr h
mutual
theorem Den.mono (e : Ex H H') (ho : ∀ a, O' a → H a ≠ none → O a) : ∀ {d : D} {v : V}, Den T O H d v → Den T O' H' d v
  | .non, _, h => by simpa [Den] using h
  | .bl _, _, h => by simpa [Den] using h
  | .int _, _, h => by simpa [Den] using h
  | .str _, _, h => by simpa [Den] using h
  | .tup ds, _, h => by
    simp only [Den] at h ⊢
    obtain ⟨a, vs, e1, e2, e3⟩ := h
    exact ⟨a, vs, e1, Evl.ex_t e e2, Dens.mono e ho e3⟩
  | .lst ds, _, h => by
    simp only [Den] at h ⊢
    obtain ⟨a, vs, e1, e2, e4, e3⟩ := h
    exact ⟨a, vs, e1, e _ _ e2, fun z => e4 (ho a z (by rw [e2]; simp)), Dens.mono e ho e3⟩
  | .scr ns, _, h => by
    simp only [Den] at h ⊢
    obtain ⟨a, e1, e2⟩ := h
    refine ⟨a, e1, ?_⟩
    rcases e2 with ⟨o, e2⟩ | e2
    · exact .inl ⟨o, e _ _ e2⟩
    · exact .inr e2
  | .drw ns, _, h => by
    simp only [Den] at h ⊢
    obtain ⟨a, b, e1, e2, e4, e3⟩ := h
    exact ⟨a, b, e1, e _ _ e2, fun z => e4 (ho a z (by rw [e2]; simp)), e3.mono e⟩
  | .dct _ _, _, h => by
    simp only [Den] at h ⊢
    obtain ⟨a, es, e1, e2, e4, e5, e3, e6⟩ := h
    exact ⟨a, es, e1, e _ _ e2, fun z => e4 (ho a z (by rw [e2]; simp)), e5, Dens.mono e ho e3, Dens.mono e ho e6⟩
  | .fn _, _, h => by simpa [Den] using h
  | .ins c fs, _, h => by
    simp only [Den] at h ⊢
    obtain ⟨a, dx, vs, e1, e2, e5, e4, e3⟩ := h
    exact ⟨a, dx, vs, e1, e _ _ e2, e5, fun z => e4 (ho a z (by rw [e2]; simp)), Dens.mono e ho e3⟩
theorem Dens.mono (e : Ex H H') (ho : ∀ a, O' a → H a ≠ none → O a) : ∀ {ds : List D} {vs : List V}, Dens T O H ds vs → Dens T O' H' ds vs
  | [], _, h => by simpa [Dens] using h
  | _ :: _, _, h => by
    simp only [Dens] at h ⊢
    obtain ⟨v, r, e1, e2, e3⟩ := h
    exact ⟨v, r, e1, Den.mono e ho e2, Dens.mono e ho e3⟩
end
theorem Den.ex {d : D} {v : V} (h : Den T O H d v) (e : Ex H H') : Den T O H' d v := h.mono e fun _ z _ => z
theorem Dens.ex {ds : List D} {vs : List V} (h : Dens T O H ds vs) (e : Ex H H') : Dens T O H' ds vs := h.mono e fun _ z _ => z
theorem Den.weak {d : D} {v : V} (h : Den T O H d v) (e : ∀ a, O' a → O a) : Den T O' H d v := h.mono (Ex.refl H) fun a z _ => e a z
theorem Dens.weak {ds : List D} {vs : List V} (h : Dens T O H ds vs) (e : ∀ a, O' a → O a) : Dens T O' H ds vs := h.mono (Ex.refl H) fun a z _ => e a z

/-- an object that is avoided may change, if it is a list, an instance or a dict before -/
def Mb (o : Option HO) : Prop := match o with
  | some (.lst _) => True
  | some (.ins _ _ _) => True
  | some (.ext _) => True
  | _ => False
theorem ScrAt.upd {K : PySem.W.Frag} {p a : Addr} {o : HO} {ns : List Int} (hm : Mb (H p)) (h : ScrAt K H a ns) : ScrAt K (upd H p o) a ns := by
  rcases h with ⟨o, h⟩ | h
  · have : a ≠ p := fun z => by subst z; rw [h] at hm; exact hm
    exact .inl ⟨o, by rw [upd_ne this]; exact h⟩
  · exact .inr h
mutual
theorem Den.upd {p : Addr} {o : HO} (hp : O p) (hm : Mb (H p)) : ∀ {d : D} {v : V}, Den T O H d v → Den T O (upd H p o) d v
  | .non, _, h => by simpa [Den] using h
  | .bl _, _, h => by simpa [Den] using h
  | .int _, _, h => by simpa [Den] using h
  | .str _, _, h => by simpa [Den] using h
  | .tup ds, _, h => by
    simp only [Den] at h ⊢
    obtain ⟨a, vs, e1, e2, e3⟩ := h
    refine ⟨a, vs, e1, ?_, Dens.upd hp hm e3⟩
    rcases e2 with (e2 | ⟨ob, e2⟩) | e2
    · have : a ≠ p := fun z => by subst z; rw [e2] at hm; exact hm
      exact .inl (.inl (by rw [upd_ne this]; exact e2))
    · have : a ≠ p := fun z => by subst z; rw [e2] at hm; exact hm
      exact .inl (.inr ⟨ob, by rw [upd_ne this]; exact e2⟩)
    · exact .inr e2
  | .lst ds, _, h => by
    simp only [Den] at h ⊢
    obtain ⟨a, vs, e1, e2, e4, e3⟩ := h
    have : a ≠ p := fun z => by subst z; exact e4 hp
    exact ⟨a, vs, e1, by rw [upd_ne this]; exact e2, e4, Dens.upd hp hm e3⟩
  | .scr ns, _, h => by
    simp only [Den] at h ⊢
    obtain ⟨a, e1, e2⟩ := h
    refine ⟨a, e1, ?_⟩
    rcases e2 with ⟨o, e2⟩ | e2
    · have : a ≠ p := fun z => by subst z; rw [e2] at hm; exact hm
      exact .inl ⟨o, by rw [upd_ne this]; exact e2⟩
    · exact .inr e2
  | .drw ns, _, h => by
    simp only [Den] at h ⊢
    obtain ⟨a, b, e1, e2, e4, e3⟩ := h
    have : a ≠ p := fun z => by subst z; exact e4 hp
    exact ⟨a, b, e1, by rw [upd_ne this]; exact e2, e4, e3.upd hm⟩
  | .dct _ _, _, h => by
    simp only [Den] at h ⊢
    obtain ⟨a, es, e1, e2, e4, e5, e3, e6⟩ := h
    have : a ≠ p := fun z => by subst z; exact e4 hp
    exact ⟨a, es, e1, by rw [upd_ne this]; exact e2, e4, e5, Dens.upd hp hm e3, Dens.upd hp hm e6⟩
  | .fn _, _, h => by simpa [Den] using h
  | .ins c fs, _, h => by
    simp only [Den] at h ⊢
    obtain ⟨a, dx, vs, e1, e2, e5, e4, e3⟩ := h
    have : a ≠ p := fun z => by subst z; exact e4 hp
    exact ⟨a, dx, vs, e1, by rw [upd_ne this]; exact e2, e5, e4, Dens.upd hp hm e3⟩
theorem Dens.upd {p : Addr} {o : HO} (hp : O p) (hm : Mb (H p)) : ∀ {ds : List D} {vs : List V}, Dens T O H ds vs → Dens T O (upd H p o) ds vs
  | [], _, h => by simpa [Dens] using h
  | _ :: _, _, h => by
    simp only [Dens] at h ⊢
    obtain ⟨v, r, e1, e2, e3⟩ := h
    exact ⟨v, r, e1, Den.upd hp hm e2, Dens.upd hp hm e3⟩
end
theorem Dens.length : ∀ {ds : List D} {vs : List V}, Dens T O H ds vs → vs.length = ds.length
  | [], _, h => by simp only [Dens] at h; subst h; rfl
  | _ :: _, _, h => by
    simp only [Dens] at h
    obtain ⟨v, r, rfl, _, e⟩ := h
    simp [Dens.length e]
theorem Dens.nil : Dens T O H [] [] := by simp [Dens]
theorem Dens.cons {d : D} {v : V} {ds : List D} {vs : List V} (h : Den T O H d v) (t : Dens T O H ds vs) : Dens T O H (d :: ds) (v :: vs) := by
  simp only [Dens]; exact ⟨v, vs, rfl, h, t⟩
theorem Dens.uncons {d : D} {v : V} {ds : List D} {vs : List V} (h : Dens T O H (d :: ds) (v :: vs)) : Den T O H d v ∧ Dens T O H ds vs := by
  simp only [Dens] at h
  obtain ⟨v', r, e, a, b⟩ := h
  cases e; exact ⟨a, b⟩
theorem Dens.append : ∀ {ds : List D} {vs : List V} {es : List D} {us : List V}, Dens T O H ds vs → Dens T O H es us → Dens T O H (ds ++ es) (vs ++ us)
  | [], _, _, _, h, t => by simp only [Dens] at h; subst h; exact t
  | _ :: _, _, _, _, h, t => by
    simp only [Dens] at h
    obtain ⟨v, r, rfl, a, b⟩ := h
    exact .cons a (b.append t)
theorem Dens.get : ∀ {ds : List D} {vs : List V} {i : Nat} {d : D}, Dens T O H ds vs → ds[i]? = some d → ∃ v, vs[i]? = some v ∧ Den T O H d v
  | [], _, _, _, _, e => by simp at e
  | _ :: _, _, 0, _, h, e => by
    simp only [Dens] at h
    obtain ⟨v, r, rfl, a, b⟩ := h
    simp at e; subst e; exact ⟨v, rfl, a⟩
  | _ :: _, _, i + 1, _, h, e => by
    simp only [Dens] at h
    obtain ⟨v, r, rfl, a, b⟩ := h
    obtain ⟨v', e1, e2⟩ := b.get (i := i) (by simpa using e)
    exact ⟨v', by simpa using e1, e2⟩
theorem Dens.get' : ∀ {ds : List D} {vs : List V} {i : Nat} {v : V}, Dens T O H ds vs → vs[i]? = some v → ∃ d, ds[i]? = some d ∧ Den T O H d v
  | [], _, _, _, h, e => by simp only [Dens] at h; subst h; simp at e
  | _ :: _, _, 0, _, h, e => by
    simp only [Dens] at h
    obtain ⟨v, r, rfl, a, b⟩ := h
    simp at e; subst e; exact ⟨_, rfl, a⟩
  | _ :: _, _, i + 1, _, h, e => by
    simp only [Dens] at h
    obtain ⟨v, r, rfl, a, b⟩ := h
    obtain ⟨v', e1, e2⟩ := b.get' (i := i) (by simpa using e)
    exact ⟨v', by simpa using e1, e2⟩
theorem Dens.set : ∀ {ds : List D} {vs : List V} (i : Nat) {d : D} {v : V}, Dens T O H ds vs → Den T O H d v → Dens T O H (ds.set i d) (vs.set i v)
  | [], _, _, _, _, h, e => by simp only [Dens] at h; subst h; exact .nil
  | _ :: _, _, 0, _, _, h, e => by
    simp only [Dens] at h
    obtain ⟨v, r, rfl, a, b⟩ := h
    exact .cons e b
  | _ :: _, _, i + 1, _, _, h, e => by
    simp only [Dens] at h
    obtain ⟨v, r, rfl, a, b⟩ := h
    exact .cons a (b.set i e)
theorem Dens.take : ∀ {ds : List D} {vs : List V} (n : Nat), Dens T O H ds vs → Dens T O H (ds.take n) (vs.take n)
  | _, _, 0, _ => by simpa using .nil
  | [], _, _ + 1, h => by simp only [Dens] at h; subst h; exact .nil
  | _ :: _, _, n + 1, h => by
    simp only [Dens] at h
    obtain ⟨v, r, rfl, a, b⟩ := h
    exact .cons a (b.take n)
theorem Dens.drop : ∀ {ds : List D} {vs : List V} (n : Nat), Dens T O H ds vs → Dens T O H (ds.drop n) (vs.drop n)
  | _, _, 0, h => h
  | [], _, _ + 1, h => by simp only [Dens] at h; subst h; exact .nil
  | _ :: _, _, n + 1, h => by
    simp only [Dens] at h
    obtain ⟨v, r, rfl, a, b⟩ := h
    exact b.drop n
theorem Dens.reverse : ∀ {ds : List D} {vs : List V}, Dens T O H ds vs → Dens T O H ds.reverse vs.reverse
  | [], _, h => by simp only [Dens] at h; subst h; exact .nil
  | _ :: _, _, h => by
    simp only [Dens] at h
    obtain ⟨v, r, rfl, a, b⟩ := h
    simp only [List.reverse_cons]
    exact b.reverse.append (.cons a .nil)
theorem Dens.int : ∀ (ns : List Int), Dens T O H (ns.map D.int) (ns.map V.int)
  | [] => .nil
  | n :: ns => .cons (by simp [Den]) (Dens.int ns)
end

/-! ### pure data as PyData -/
mutual
def D.toP : D → Option PyData
  | .non => some .none
  | .bl b => some (.bool b)
  | .int i => some (.int i)
  | .str x => some (.str x)
  | .tup ds => (D.toPs ds).map .tuple
  | .lst ds => (D.toPs ds).map .list
  | .dct _ _ => none
  | .fn _ => none
  | .drw _ => none
  | .ins _ _ => none
  | .scr ns => some (.list (ns.map .int))
def D.toPs : List D → Option (List PyData)
  | [] => some []
  | d :: ds => match D.toP d, D.toPs ds with
    | some p, some ps => some (p :: ps)
    | _, _ => none
end
section
variable {T : Tb} {O : AP} {H : Hp}
theorem dpInts {K : PySem.W.Frag} : ∀ (ns : List Int), DpAll K H (ns.map V.int) (ns.map PyData.int)
  | [] => .nil
  | n :: ns => .cons (.int n) (dpInts ns)
mutual
theorem Den.dp : ∀ {d : D} {v : V} {p : PyData}, Den T O H d v → d.toP = some p → Dp T.K H v p
  | .non, _, _, h, e => by simp only [Den] at h; simp only [D.toP, Option.some.injEq] at e; subst h e; exact .non
  | .bl b, _, _, h, e => by simp only [Den] at h; simp only [D.toP, Option.some.injEq] at e; subst h e; exact .bl b
  | .int i, _, _, h, e => by simp only [Den] at h; simp only [D.toP, Option.some.injEq] at e; subst h e; exact .int i
  | .str x, _, _, h, e => by simp only [Den] at h; simp only [D.toP, Option.some.injEq] at e; subst h e; exact .str x
  | .tup ds, _, _, h, e => by
    simp only [Den] at h
    obtain ⟨a, vs, rfl, h1, h2⟩ := h
    simp only [D.toP, Option.map_eq_some_iff] at e
    obtain ⟨ps, e1, rfl⟩ := e
    exact .tup h1 (Dens.dp h2 e1)
  | .lst ds, _, _, h, e => by
    simp only [Den] at h
    obtain ⟨a, vs, rfl, h1, _, h2⟩ := h
    simp only [D.toP, Option.map_eq_some_iff] at e
    obtain ⟨ps, e1, rfl⟩ := e
    exact .lst (.inl (.inl h1)) (Dens.dp h2 e1)
  | .scr ns, _, _, h, e => by
    simp only [Den] at h
    obtain ⟨a, rfl, h1⟩ := h
    simp only [D.toP, Option.some.injEq] at e
    subst e
    exact .lst h1.sq (dpInts ns)
  | .dct _ _, _, _, _, e => by simp [D.toP] at e
  | .fn _, _, _, _, e => by simp [D.toP] at e
  | .drw _, _, _, _, e => by simp [D.toP] at e
  | .ins _ _, _, _, _, e => by simp [D.toP] at e
theorem Dens.dp : ∀ {ds : List D} {vs : List V} {ps : List PyData}, Dens T O H ds vs → D.toPs ds = some ps → DpAll T.K H vs ps
  | [], _, _, h, e => by simp only [Dens] at h; simp only [D.toPs, Option.some.injEq] at e; subst h e; exact .nil
  | d :: ds, _, _, h, e => by
    simp only [Dens] at h
    obtain ⟨v, r, rfl, a, b⟩ := h
    simp only [D.toPs] at e
    cases e1 : d.toP with
    | none => rw [e1] at e; simp at e
    | some p =>
      cases e2 : D.toPs ds with
      | none => rw [e1, e2] at e; simp at e
      | some ps' =>
        rw [e1, e2] at e
        simp at e; subst e
        exact .cons (Den.dp a e1) (Dens.dp b e2)
end
end
theorem force_R_bind : True := by
  have h1 := @R.bind.eq_def
  have h2 := @R.bind.eq_1
  trivial
end BV
set_option Elab.async false
set_option linter.all false
set_option maxRecDepth 100000
namespace BV
open PySem L2
open Evl (Ex)

/-- a slot: whether the object is the body's own, and its data -/
abbrev Slot := Bool × D
abbrev Rho := List (Option Slot)
def OwnA (σ : L2.St) (ρ : Rho) : AP := fun a => ∃ (i : Nat) (d : D), ρ[i]? = some (some (true, d)) ∧ σ[i]? = some (some (.ref a))
def Av (O : AP) (σ : L2.St) (ρ : Rho) : AP := fun a => O a ∨ OwnA σ ρ a

def OwnDen (T : Tb) (O : AP) (H : Hp) : D → Addr → Prop
  | .lst ds, a => ∃ vs, H a = some (.lst vs) ∧ Dens T O H ds vs
  | .ins c fs, a => ∃ dx vs, H a = some (.ins (T.cls c) dx ((T.flds c).zip vs)) ∧ (vs.length ≤ (T.flds c).length ∧ a = T.slf) ∧ Dens T O H fs vs
  | .dct ks ds, a => ∃ es, H a = some (DictO T.w a es) ∧ KOk ks (es.1.map fun e => e.1) ∧ Dens T O H ks (es.1.map fun e => e.2.1) ∧ Dens T O H ds (es.1.map fun e => e.2.2)
  | _, _ => False
theorem OwnDen.mono {T : Tb} {O O' : AP} {H H' : Hp} (e : Ex H H') (ho : ∀ a, O' a → H a ≠ none → O a) {d : D} {a : Addr} (h : OwnDen T O H d a) : OwnDen T O' H' d a := by
  cases d with
  | lst ds => obtain ⟨vs, h1, h2⟩ := h; exact ⟨vs, e _ _ h1, h2.mono e ho⟩
  | ins c fs => obtain ⟨dx, vs, h1, h3, h2⟩ := h; exact ⟨dx, vs, e _ _ h1, h3, h2.mono e ho⟩
  | dct ks ds => obtain ⟨es, h1, h4, h2, h3⟩ := h; exact ⟨es, e _ _ h1, h4, h2.mono e ho, h3.mono e ho⟩
  | _ => exact h.elim
theorem OwnDen.weak {T : Tb} {O O' : AP} {H : Hp} {d : D} {a : Addr} (h : OwnDen T O H d a) (ho : ∀ a, O' a → O a) : OwnDen T O' H d a := h.mono (Ex.refl H) fun a z _ => ho a z
theorem OwnDen.upd {T : Tb} {O : AP} {H : Hp} {p : Addr} {o : HO} (hp : O p) (hm : Mb (H p)) {d : D} {a : Addr} (ne : a ≠ p) (h : OwnDen T O H d a) : OwnDen T O (upd H p o) d a := by
  cases d with
  | lst ds => obtain ⟨vs, h1, h2⟩ := h; exact ⟨vs, by rw [upd_ne ne]; exact h1, h2.upd hp hm⟩
  | ins c fs => obtain ⟨dx, vs, h1, h3, h2⟩ := h; exact ⟨dx, vs, by rw [upd_ne ne]; exact h1, h3, h2.upd hp hm⟩
  | dct ks ds => obtain ⟨es, h1, h4, h2, h3⟩ := h; exact ⟨es, by rw [upd_ne ne]; exact h1, h4, h2.upd hp hm, h3.upd hp hm⟩
  | _ => exact h.elim

structure Rel (T : Tb) (H0 : Hp) (O : AP) (σ : L2.St) (H : Hp) (ρ : Rho) : Prop where
  ex : Ex H0 H
  dom : ∀ a, O a → H a ≠ none
  len : ρ.length = σ.length
  val : ∀ (i : Nat) (d : D), ρ[i]? = some (some (false, d)) → ∃ v, σ[i]? = some (some v) ∧ Den T (Av O σ ρ) H d v
  own : ∀ (i : Nat) (d : D), ρ[i]? = some (some (true, d)) → ∃ a, σ[i]? = some (some (.ref a)) ∧ (H0 a = none ∧ ¬ O a) ∧ OwnDen T (Av O σ ρ) H d a
  inj : ∀ (i j : Nat) (d e : D) (a : Addr), ρ[i]? = some (some (true, d)) → ρ[j]? = some (some (true, e)) → σ[i]? = some (some (.ref a)) → σ[j]? = some (some (.ref a)) → i = j

section
variable {T : Tb} {O : AP} {H0 H H' : Hp} {σ : L2.St} {ρ : Rho}
theorem OwnDen.ex {d : D} {a : Addr} (h : OwnDen T O H d a) (e : Ex H H') : OwnDen T O H' d a := h.mono e fun _ z _ => z
theorem OwnDen.some {d : D} {a : Addr} (h : OwnDen T O H d a) : H a ≠ none := by
  cases d with
  | lst ds => obtain ⟨vs, h1, h2⟩ := h; rw [h1]; simp
  | ins c fs => obtain ⟨dx, vs, h1, h3, h2⟩ := h; rw [h1]; simp
  | dct ks ds => obtain ⟨es, h1, _⟩ := h; rw [h1]; simp
  | _ => exact h.elim
theorem Rel.mono (r : Rel T H0 O σ H ρ) (e : Ex H H') : Rel T H0 O σ H' ρ :=
  ⟨r.ex.trans e, fun a h z => r.dom a h (Evl.fresh_back e z), r.len, fun i d h => let ⟨v, a, b⟩ := r.val i d h; ⟨v, a, b.ex e⟩, fun i d h => let ⟨v, a, b, c⟩ := r.own i d h; ⟨v, a, b, c.ex e⟩, r.inj⟩
theorem Rel.avdom (r : Rel T H0 O σ H ρ) : ∀ a, Av O σ ρ a → H a ≠ none := fun a h => by
  rcases h with h | ⟨i, d, h1, h2⟩
  · exact r.dom a h
  · obtain ⟨b, e1, _, e2⟩ := r.own i d h1
    rw [h2] at e1; cases e1
    exact e2.some
/-- what a value of an expression, or an error, must bring about -/
def ErrDen (T : Tb) (O : AP) (H : Hp) (c : Nat) (fs : List D) (x : Option Addr) : Prop :=
  match fs with
  | [] => x = none ∧ T.flds c = []
  | _ => ∃ dd vs, x = some dd ∧ H dd = some (.xd ((T.flds c).zip vs)) ∧ vs.length = (T.flds c).length ∧ Dens T O H fs vs
/-- a value whose top may be one of the own objects: what it holds avoids them -/
def SDen (T : Tb) (O A : AP) (H : Hp) : D → V → Prop
  | .lst ds, v => ∃ a vs, v = .ref a ∧ H a = some (.lst vs) ∧ ¬ O a ∧ Dens T A H ds vs
  | .ins c fs, v => ∃ a dx vs, v = .ref a ∧ H a = some (.ins (T.cls c) dx ((T.flds c).zip vs)) ∧ vs.length = (T.flds c).length ∧ ¬ O a ∧ Dens T A H fs vs
  | .dct ks ds, v => ∃ a es, v = .ref a ∧ H a = some (DictO T.w a es) ∧ ¬ O a ∧ KOk ks (es.1.map fun e => e.1) ∧ Dens T A H ks (es.1.map fun e => e.2.1) ∧ Dens T A H ds (es.1.map fun e => e.2.2)
  | d, v => Den T A H d v
theorem SDen.ex {A : AP} {d : D} {v : V} (h : SDen T O A H d v) (e : Ex H H') : SDen T O A H' d v := by
  cases d with
  | lst ds => obtain ⟨a, vs, h1, h2, h3, h4⟩ := h; exact ⟨a, vs, h1, e _ _ h2, h3, h4.ex e⟩
  | ins c fs => obtain ⟨a, dx, vs, h1, h2, h5, h3, h4⟩ := h; exact ⟨a, dx, vs, h1, e _ _ h2, h5, h3, h4.ex e⟩
  | dct ks ds => obtain ⟨a, es, h1, h2, h3, h5, h4, h6⟩ := h; exact ⟨a, es, h1, e _ _ h2, h3, h5, h4.ex e, h6.ex e⟩
  | _ => exact Den.ex h e
theorem Den.s {d : D} {v : V} (h : Den T (Av O σ ρ) H d v) : SDen T O (Av O σ ρ) H d v := by
  cases d with
  | lst ds => simp only [Den] at h; obtain ⟨a, vs, h1, h2, h3, h4⟩ := h; exact ⟨a, vs, h1, h2, fun z => h3 (.inl z), h4⟩
  | ins c fs => simp only [Den] at h; obtain ⟨a, dx, vs, h1, h2, h5, h3, h4⟩ := h; exact ⟨a, dx, vs, h1, h2, h5, fun z => h3 (.inl z), h4⟩
  | dct ks ds => simp only [Den] at h; obtain ⟨a, es, h1, h2, h3, h5, h4, h6⟩ := h; exact ⟨a, es, h1, h2, fun z => h3 (.inl z), h5, h4, h6⟩
  | _ => exact h
theorem SDen.d {A : AP} {d : D} {v : V} (ha : ∀ a, O a → A a) (h : SDen T O A H d v) : Den T O H d v := by
  cases d with
  | lst ds => obtain ⟨a, vs, h1, h2, h3, h4⟩ := h; simp only [Den]; exact ⟨a, vs, h1, h2, h3, h4.weak ha⟩
  | ins c fs => obtain ⟨a, dx, vs, h1, h2, h5, h3, h4⟩ := h; simp only [Den]; exact ⟨a, dx, vs, h1, h2, h5, h3, h4.weak ha⟩
  | dct ks ds => obtain ⟨a, es, h1, h2, h3, h5, h4, h6⟩ := h; simp only [Den]; exact ⟨a, es, h1, h2, h3, h5, h4.weak ha, h6.weak ha⟩
  | _ => exact Den.weak h ha
def PostP (T : Tb) (W : WX) (O A : AP) (σ : L2.St) (H : Hp) (r : R D) (Q : VK) : Prop := match r with
  | .ok d => ∀ v H', Ex H H' → SDen T O A H' d v → Q v H'
  | .err c fs => ∀ x H', Ex H H' → ErrDen T A H' c fs x → W (.ref (T.cls c)) x σ H'
  | .stuck => False
  | .any k => ∀ i, PostP T W O A σ H (k i) Q
def Post (T : Tb) (W : WX) (A : AP) (σ : L2.St) (H : Hp) (r : R D) (Q : VK) : Prop := match r with
  | .ok d => ∀ v H', Ex H H' → Den T A H' d v → Q v H'
  | .err c fs => ∀ x H', Ex H H' → ErrDen T A H' c fs x → W (.ref (T.cls c)) x σ H'
  | .stuck => False
  | .any k => ∀ i, Post T W A σ H (k i) Q
/-- the same for lists of values -/
def PostL (T : Tb) (W : WX) (A : AP) (σ : L2.St) (H : Hp) (r : R (List D)) (Q : List V → Hp → Prop) : Prop := match r with
  | .ok ds => ∀ vs H', Ex H H' → Dens T A H' ds vs → Q vs H'
  | .err c fs => ∀ x H', Ex H H' → ErrDen T A H' c fs x → W (.ref (T.cls c)) x σ H'
  | .stuck => False
  | .any k => ∀ i, PostL T W A σ H (k i) Q
/-- what may come of it -/
inductive Leaf {α : Type} : R α → α → Prop where
  | ok (a : α) : Leaf (.ok a) a
  | any {k : Int → R α} {i : Int} {a : α} (h : Leaf (k i) a) : Leaf (.any k) a
def truth : D → R Bool
  | .bl b => .ok b
  | _ => .stuck
def PostT (T : Tb) (W : WX) (A : AP) (σ : L2.St) (H : Hp) (r : R Bool) (Q : Bool → Hp → Prop) : Prop := match r with
  | .ok b => ∀ H', Ex H H' → Q b H'
  | .err c fs => ∀ x H', Ex H H' → ErrDen T A H' c fs x → W (.ref (T.cls c)) x σ H'
  | .stuck => False
  | .any k => ∀ i, PostT T W A σ H (k i) Q
/-- readings by a function of the slots: strong (the value avoids the own objects), weak -/
def tB (T : Tb) (W : WX) (f : Rho → R D) : TE := fun σ H Q => ∃ H0 O ρ, Rel T H0 O σ H ρ ∧ Post T W (Av O σ ρ) σ H (f ρ) Q
def tP (T : Tb) (W : WX) (f : Rho → R D) : TE := fun σ H Q => ∃ H0 O ρ, Rel T H0 O σ H ρ ∧ PostP T W O (Av O σ ρ) σ H (f ρ) Q
def tBs (T : Tb) (W : WX) (f : Rho → R (List D)) : TA := fun σ H Q => ∃ H0 O ρ, Rel T H0 O σ H ρ ∧ PostL T W (Av O σ ρ) σ H (f ρ) Q
def tBT (T : Tb) (W : WX) (f : Rho → R Bool) : TT := fun σ H Q => ∃ H0 O ρ, Rel T H0 O σ H ρ ∧ PostT T W (Av O σ ρ) σ H (f ρ) Q

variable {W : WX} {A A' : AP}
theorem Post.mono {r : R D} {Q : VK} (h : Post T W A σ H r Q) (e : Ex H H') : Post T W A σ H' r Q := by
  induction r with
  | ok d => exact fun v H2 e2 q => h v H2 (e.trans e2) q
  | err c fs => exact fun v H2 e2 q => h v H2 (e.trans e2) q
  | stuck => exact h
  | any k ih => exact fun i => ih i (h i)
theorem PostL.mono {r : R (List D)} {Q : List V → Hp → Prop} (h : PostL T W A σ H r Q) (e : Ex H H') : PostL T W A σ H' r Q := by
  induction r with
  | ok d => exact fun v H2 e2 q => h v H2 (e.trans e2) q
  | err c fs => exact fun v H2 e2 q => h v H2 (e.trans e2) q
  | stuck => exact h
  | any k ih => exact fun i => ih i (h i)
theorem PostT.mono {r : R Bool} {Q : Bool → Hp → Prop} (h : PostT T W A σ H r Q) (e : Ex H H') : PostT T W A σ H' r Q := by
  induction r with
  | ok d => exact fun H2 e2 => h H2 (e.trans e2)
  | err c fs => exact fun v H2 e2 q => h v H2 (e.trans e2) q
  | stuck => exact h
  | any k ih => exact fun i => ih i (h i)
theorem ErrDen.ex {c : Nat} {fs : List D} {x : Option Addr} (h : ErrDen T A H c fs x) (e : Ex H H') : ErrDen T A H' c fs x := by
  cases fs with
  | nil => exact h
  | cons f fs => obtain ⟨dd, vs, a, b, c, d⟩ := h; exact ⟨dd, vs, a, e _ _ b, c, d.ex e⟩
theorem ErrDen.weak {c : Nat} {fs : List D} {x : Option Addr} (h : ErrDen T A H c fs x) (e : ∀ a, A' a → A a) : ErrDen T A' H c fs x := by
  cases fs with
  | nil => exact h
  | cons f fs => obtain ⟨dd, vs, a, b, c, d⟩ := h; exact ⟨dd, vs, a, b, c, d.weak e⟩
/-- a weaker reading is enough -/
theorem pe_imp {X : Cx} {e : Expr} {t t' : TE} (h : PE X e t) (i : ∀ σ H Q, t' σ H Q → t σ H Q) : PE X e t' := ⟨fun pins s σ H Q I q => h.run pins s σ H Q I (i σ H Q q)⟩
theorem pt_imp {X : Cx} {e : Expr} {t t' : TT} (h : PT X e t) (i : ∀ σ H Q, t' σ H Q → t σ H Q) : PT X e t' := ⟨fun pins s σ H Q I q => h.run pins s σ H Q I (i σ H Q q)⟩
theorem pw_imp {X : Cx} {e : Expr} {t t' : TT} (h : PW X e t) (i : ∀ σ H Q, t' σ H Q → t σ H Q) : PW X e t' := ⟨fun wh pins s σ H Q I q => h.run wh pins s σ H Q I (i σ H Q q)⟩
theorem pa_imp {X : Cx} {e : List Expr} {t t' : TA} (h : PA X e t) (i : ∀ σ H Q, t' σ H Q → t σ H Q) : PA X e t' := ⟨fun pos pins s σ H Q I q => h.run pos pins s σ H Q I (i σ H Q q)⟩
theorem pk_imp {X : Cx} {e : List Keyword} {t t' : TA} (h : PK X e t) (i : ∀ σ H Q, t' σ H Q → t σ H Q) : PK X e t' := ⟨fun pos pins s σ H Q I q => h.run pos pins s σ H Q I (i σ H Q q)⟩
theorem ps_imp {X : Cx} {e : Stmt} {t t' : TS} (h : PS X e t) (i : ∀ D σ H, t' D σ H → t D σ H) : PS X e t' := ⟨fun pins s σ H D I q => h.run pins s σ H D I (i D σ H q)⟩
theorem pss_imp {X : Cx} {e : List Stmt} {t t' : TS} (h : PSs X e t) (i : ∀ D σ H, t' D σ H → t D σ H) : PSs X e t' := ⟨fun pins s σ H D I q => h.run pins s σ H D I (i D σ H q)⟩

/-- first this, then that -/
theorem tB.bind {f : Rho → R D} {k : D → R D} {Q R' : VK} (r : Rel T H0 O σ H ρ) (h : Post T W (Av O σ ρ) σ H ((f ρ).bind k) Q)
    (q : ∀ d v H1, Leaf (f ρ) d → Ex H H1 → Rel T H0 O σ H1 ρ → Den T (Av O σ ρ) H1 d v → Post T W (Av O σ ρ) σ H1 (k d) Q → R' v H1) : tB T W f σ H R' := by
  refine ⟨H0, O, ρ, r, ?_⟩
  generalize f ρ = r0 at h q ⊢
  induction r0 with
  | ok d => exact fun v H1 e1 hd => q d v H1 (.ok d) e1 (r.mono e1) hd (Post.mono (r := k d) h e1)
  | err c fs => exact h
  | stuck => exact h
  | any k0 ih => exact fun i => ih i (h i) fun d v H1 l => q d v H1 (.any l)
theorem tP.bind {f : Rho → R D} {k : D → R D} {Q R' : VK} (r : Rel T H0 O σ H ρ) (h : Post T W (Av O σ ρ) σ H ((f ρ).bind k) Q)
    (q : ∀ d v H1, Leaf (f ρ) d → Ex H H1 → Rel T H0 O σ H1 ρ → SDen T O (Av O σ ρ) H1 d v → Post T W (Av O σ ρ) σ H1 (k d) Q → R' v H1) : tP T W f σ H R' := by
  refine ⟨H0, O, ρ, r, ?_⟩
  generalize f ρ = r0 at h q ⊢
  induction r0 with
  | ok d => exact fun v H1 e1 hd => q d v H1 (.ok d) e1 (r.mono e1) hd (Post.mono (r := k d) h e1)
  | err c fs => exact h
  | stuck => exact h
  | any k0 ih => exact fun i => ih i (h i) fun d v H1 l => q d v H1 (.any l)
theorem tBs.bind {f : Rho → R (List D)} {k : List D → R D} {Q : VK} {R' : List V → Hp → Prop} (r : Rel T H0 O σ H ρ) (h : Post T W (Av O σ ρ) σ H ((f ρ).bind k) Q)
    (q : ∀ ds vs H1, Leaf (f ρ) ds → Ex H H1 → Rel T H0 O σ H1 ρ → Dens T (Av O σ ρ) H1 ds vs → Post T W (Av O σ ρ) σ H1 (k ds) Q → R' vs H1) : tBs T W f σ H R' := by
  refine ⟨H0, O, ρ, r, ?_⟩
  generalize f ρ = r0 at h q ⊢
  induction r0 with
  | ok d => exact fun v H1 e1 hd => q d v H1 (.ok d) e1 (r.mono e1) hd (Post.mono (r := k d) h e1)
  | err c fs => exact h
  | stuck => exact h
  | any k0 ih => exact fun i => ih i (h i) fun d v H1 l => q d v H1 (.any l)
theorem tBT.bind {f : Rho → R Bool} {k : Bool → R D} {Q : VK} {R' : Bool → Hp → Prop} (r : Rel T H0 O σ H ρ) (h : Post T W (Av O σ ρ) σ H ((f ρ).bind k) Q)
    (q : ∀ b H1, Leaf (f ρ) b → Ex H H1 → Rel T H0 O σ H1 ρ → Post T W (Av O σ ρ) σ H1 (k b) Q → R' b H1) : tBT T W f σ H R' := by
  refine ⟨H0, O, ρ, r, ?_⟩
  generalize f ρ = r0 at h q ⊢
  induction r0 with
  | ok d => exact fun H1 e1 => q d H1 (.ok d) e1 (r.mono e1) (Post.mono (r := k d) h e1)
  | err c fs => exact h
  | stuck => exact h
  | any k0 ih => exact fun i => ih i (h i) fun d H1 l => q d H1 (.any l)
theorem tP_of_tB {X : Cx} {e : Expr} {f : Rho → R D} (h : PE X e (tB T W f)) : PE X e (tP T W f) := pe_imp h fun σ H Q ⟨H0, O, ρ, r, p⟩ => by
  refine ⟨H0, O, ρ, r, ?_⟩
  generalize f ρ = r0 at p ⊢
  induction r0 with
  | ok d => exact fun v H' e hd => p v H' e hd.s
  | err c fs => exact p
  | stuck => exact p
  | any k0 ih => exact fun i => ih i (p i)
end
theorem force_PostP : True := by
  have h1 := @PostP.eq_def
  have h2 := @PostP.eq_1
  trivial
theorem force_Post : True := by
  have h1 := @Post.eq_def
  have h2 := @Post.eq_1
  trivial
theorem force_PostL : True := by
  have h1 := @PostL.eq_def
  have h2 := @PostL.eq_1
  trivial
theorem force_PostT : True := by
  have h1 := @PostT.eq_def
  have h2 := @PostT.eq_1
  trivial
end BV
set_option Elab.async false
set_option linter.all false
set_option maxRecDepth 100000
namespace BV
open PySem L2
open Evl (Ex)

/-! ### rules of operations over data -/
def okP (T : Tb) (A : AP) (H : Hp) (r : R D) (Q : VK) : Prop := match r with
  | .ok d => ∀ v H', Ex H H' → Den T A H' d v → Q v H'
  | _ => False
def rD (T : Tb) (F : D → D → R D) : R2 := fun v w H Q => ∃ O A x y, (∀ a, A a → H a ≠ none) ∧ SDen T O A H x v ∧ SDen T O A H y w ∧ okP T A H (F x y) Q
def SDens (T : Tb) (O A : AP) (H : Hp) : List D → List V → Prop
  | [], vs => vs = []
  | d :: ds, vs => ∃ v r, vs = v :: r ∧ SDen T O A H d v ∧ SDens T O A H ds r
def rC (T : Tb) (F : List D → R D) : List V → Hp → VK → Prop := fun vs H Q => ∃ O A ds, (∀ a, A a → H a ≠ none) ∧ SDens T O A H ds vs ∧ okP T A H (F ds) Q
def rU1 (T : Tb) (F : D → R D) : V → Hp → VK → Prop := fun v H Q => ∃ O A x, (∀ a, A a → H a ≠ none) ∧ SDen T O A H x v ∧ okP T A H (F x) Q

section
variable {T : Tb} {O A : AP} {H : Hp} {Q : VK} {X : Cx}
theorem okP.int {i : Int} (h : okP T A H (.ok (.int i)) Q) : Q (.int i) H := h _ H (Ex.refl H) (by simp [Den])
theorem okP.bl {b : Bool} (h : okP T A H (.ok (.bl b)) Q) : Q (.bl b) H := h _ H (Ex.refl H) (by simp [Den])
theorem okP.str {b : Str} (h : okP T A H (.ok (.str b)) Q) : Q (.str b) H := h _ H (Ex.refl H) (by simp [Den])
theorem okP.non (h : okP T A H (.ok .non) Q) : Q .non H := h _ H (Ex.refl H) (by simp [Den])
theorem okP.same {d : D} {v : V} (h : okP T A H (.ok d) Q) (q : Den T A H d v) : Q v H := h _ H (Ex.refl H) q
theorem okP.lst {ds : List D} {vs : List V} (h : okP T A H (.ok (.lst ds)) Q) (dom : ∀ a, A a → H a ≠ none) (q : Dens T A H ds vs) : ∀ p, H p = none → Q (.ref p) (upd H p (.lst vs)) := fun p hp =>
  h _ _ (Ex.new hp) (by simp only [Den]; exact ⟨p, vs, rfl, upd_same, fun z => dom p z hp, q.ex (Ex.new hp)⟩)
theorem okP.tup {ds : List D} {vs : List V} (h : okP T A H (.ok (.tup ds)) Q) (q : Dens T A H ds vs) : ∀ p, H p = none → Q (.ref p) (upd H p (.tup vs)) := fun p hp =>
  h _ _ (Ex.new hp) (by simp only [Den]; exact ⟨p, vs, rfl, .inl (.inl upd_same), q.ex (Ex.new hp)⟩)
theorem SDen.int {i : Int} {v : V} (h : SDen T O A H (.int i) v) : v = .int i := by simpa [SDen, Den] using h
theorem SDen.bl {i : Bool} {v : V} (h : SDen T O A H (.bl i) v) : v = .bl i := by simpa [SDen, Den] using h
theorem SDen.str {i : Str} {v : V} (h : SDen T O A H (.str i) v) : v = .str i := by simpa [SDen, Den] using h
theorem SDen.non {v : V} (h : SDen T O A H .non v) : v = .non := by simpa [SDen, Den] using h
theorem SDen.tup {ds : List D} {v : V} (h : SDen T O A H (.tup ds) v) : ∃ a vs, v = .ref a ∧ SqT T.K H a vs ∧ Dens T A H ds vs := by simpa [SDen, Den] using h
theorem SDen.lst {ds : List D} {v : V} (h : SDen T O A H (.lst ds) v) : ∃ a vs, v = .ref a ∧ H a = some (.lst vs) ∧ Dens T A H ds vs := by
  obtain ⟨a, vs, h1, h2, _, h3⟩ := h; exact ⟨a, vs, h1, h2, h3⟩
theorem SDen.scr {ns : List Int} {v : V} (h : SDen T O A H (.scr ns) v) : ∃ a, v = .ref a ∧ ScrAt T.K H a ns := by simpa [SDen, Den] using h
theorem SDen.ins {c : Nat} {fs : List D} {v : V} (h : SDen T O A H (.ins c fs) v) : ∃ a dx vs, v = .ref a ∧ H a = some (.ins (T.cls c) dx ((T.flds c).zip vs)) ∧ vs.length = (T.flds c).length ∧ Dens T A H fs vs := by
  obtain ⟨a, dx, vs, h1, h2, h5, _, h3⟩ := h; exact ⟨a, dx, vs, h1, h2, h5, h3⟩
/-- pure data, deep -/
theorem SDen.dp {d : D} {v : V} {p : PyData} (h : SDen T O A H d v) (e : d.toP = some p) : Dp T.K H v p := by
  cases d with
  | lst ds =>
    obtain ⟨a, vs, rfl, h1, h2⟩ := h.lst
    simp only [D.toP, Option.map_eq_some_iff] at e
    obtain ⟨ps, e1, rfl⟩ := e
    exact .lst (.inl (.inl h1)) (h2.dp e1)
  | ins c fs => simp [D.toP] at e
  | dct ks ds => simp [D.toP] at e
  | _ => exact Den.dp h e
theorem OpR.imp {f : Value → Value → Sem Value} {r r' : R2} (h : OpR X f r) (i : ∀ x y H Q, r' x y H Q → r x y H Q) : OpR X f r' := fun pins s σ H x y v u Q I a b q => h pins s σ H x y v u Q I a b (i _ _ _ _ q)
theorem CallR.imp {f : Value} {r r' : List V → Hp → VK → Prop} (h : CallR X f r) (i : ∀ x H Q, r' x H Q → r x H Q) : CallR X f r' := fun pins s σ H x v Q I a q => h pins s σ H x v Q I a (i _ _ _ q)
theorem IxR.imp {r r' : R2} (h : IxR X r) (i : ∀ x y H Q, r' x y H Q → r x y H Q) : IxR X r' := fun va sl pins s σ H x y v u Q I a b q e => h va sl pins s σ H x y v u Q I a b (i _ _ _ _ q) e
theorem CallR.or {f : Value} {r r' : List V → Hp → VK → Prop} (h : CallR X f r) (h' : CallR X f r') : CallR X f (fun x H Q => r x H Q ∨ r' x H Q) := fun pins s σ H x v Q I a q => q.elim (h pins s σ H x v Q I a) (h' pins s σ H x v Q I a)

/-! ### arithmetic -/
def opAdd : D → D → R D
  | .int i, .int j => .ok (.int (i + j))
  | .str x, .str y => if x.length + y.length ≤ sizeLine then .ok (.str (x ++ y)) else .stuck
  | .lst x, .lst y => if x.length + y.length ≤ sizeLine then .ok (.lst (x ++ y)) else .stuck
  | .tup x, .tup y => if x.length + y.length ≤ sizeLine then .ok (.tup (x ++ y)) else .stuck
  | _, _ => .stuck
theorem op_addD (hK : X.K = T.K) : OpR X (binaryOp .Add) (rD T opAdd) := by
  refine OpR.imp (op_add.or (op_add_str.or (op_cat.or op_catA))) fun v w H Q h => ?_
  obtain ⟨O, A, x, y, dom, hx, hy, q⟩ := h
  cases x <;> cases y <;> try exact q.elim
  · obtain rfl := hx.int; obtain rfl := hy.int
    exact .inl ⟨_, _, rfl, rfl, q.int⟩
  · obtain rfl := hx.str; obtain rfl := hy.str
    simp only [opAdd] at q
    split at q
    · exact .inr (.inl ⟨_, _, rfl, rfl, by assumption, q.str⟩)
    · exact q.elim
  · obtain ⟨a, vs, rfl, h1, h2⟩ := hx.tup; obtain ⟨b, ws, rfl, g1, g2⟩ := hy.tup
    simp only [opAdd] at q
    split at q
    · rename_i hz
      rw [← hK] at h1 g1
      refine .inr (.inr (.inr ⟨a, b, vs, ws, rfl, rfl, h1, g1, by rw [h2.length, g2.length]; exact hz, fun e => ?_, fun _ e => ?_, fun _ _ => q.tup (h2.append g2)⟩))
      · subst e
        have := h2.length
        rw [List.length_nil] at this
        rw [List.eq_nil_of_length_eq_zero this.symm] at q
        exact q.same (by simp only [Den]; exact ⟨b, ws, rfl, by rw [← hK]; exact g1, by simpa using g2⟩)
      · subst e
        have := g2.length
        rw [List.length_nil] at this
        rw [List.eq_nil_of_length_eq_zero this.symm] at q
        exact q.same (by simp only [Den]; exact ⟨a, vs, rfl, by rw [← hK]; exact h1, by simpa using h2⟩)
    · exact q.elim
  · obtain ⟨a, vs, rfl, h1, h2⟩ := hx.lst; obtain ⟨b, ws, rfl, g1, g2⟩ := hy.lst
    simp only [opAdd] at q
    split at q
    · rename_i hz
      exact .inr (.inr (.inl ⟨a, b, vs, ws, rfl, rfl, h1, g1, by rw [h2.length, g2.length]; exact hz, q.lst dom (h2.append g2)⟩))
    · exact q.elim
def opSub : D → D → R D
  | .int i, .int j => .ok (.int (i - j))
  | _, _ => .stuck
theorem op_subD : OpR X (binaryOp .Sub) (rD T opSub) := by
  refine OpR.imp op_sub fun v w H Q h => ?_
  obtain ⟨O, A, x, y, dom, hx, hy, q⟩ := h
  cases x <;> cases y <;> try exact q.elim
  obtain rfl := hx.int; obtain rfl := hy.int
  exact ⟨_, _, rfl, rfl, q.int⟩
def mulOk (i j : Int) : Bool := decide (-(2 ^ 64) < i ∧ i < 2 ^ 64) || decide (-(2 ^ 64) < j ∧ j < 2 ^ 64)
def opMul : D → D → R D
  | .int i, .int j => if mulOk i j then .ok (.int (i * j)) else .stuck
  | .lst x, .int k => if 0 ≤ k ∧ k ≤ 1000 ∧ x.length ≤ 1000 then .ok (.lst (List.replicate k.toNat x).flatten) else .stuck
  | .tup x, .int k => if 2 ≤ k ∧ k ≤ 1000 ∧ x.length ≤ 1000 ∧ 0 < x.length then .ok (.tup (List.replicate k.toNat x).flatten) else .stuck
  | _, _ => .stuck
theorem Dens.rep {ds : List D} {vs : List V} (h : Dens T A H ds vs) : ∀ n, Dens T A H (List.replicate n ds).flatten (List.replicate n vs).flatten
  | 0 => by simpa using Dens.nil
  | n + 1 => by simp only [List.replicate_succ, List.flatten_cons]; exact h.append (h.rep n)
theorem op_mulD (hK : X.K = T.K) : OpR X (binaryOp .Mult) (rD T opMul) := by
  refine OpR.imp (op_mul.or (op_rep.or op_repT)) fun v w H Q h => ?_
  obtain ⟨O, A, x, y, dom, hx, hy, q⟩ := h
  cases x <;> cases y <;> try exact q.elim
  · obtain rfl := hx.int; obtain rfl := hy.int
    simp only [opMul] at q
    split at q
    · rename_i hz
      simp only [mulOk, Bool.or_eq_true, decide_eq_true_eq] at hz
      exact .inl ⟨_, _, rfl, rfl, hz, q.int⟩
    · exact q.elim
  · obtain ⟨a, vs, rfl, h1, h2⟩ := hx.tup; obtain rfl := hy.int
    simp only [opMul] at q
    split at q
    · rename_i hz
      rw [← hK] at h1
      have hl := h2.length
      exact .inr (.inr ⟨a, _, vs, rfl, rfl, h1, (fun e => by subst e; simp at hl; omega), hz.1, hz.2.1, (by omega), q.tup (h2.rep _)⟩)
    · exact q.elim
  · obtain ⟨a, vs, rfl, h1, h2⟩ := hx.lst; obtain rfl := hy.int
    simp only [opMul] at q
    split at q
    · rename_i hz
      have hl := h2.length
      refine .inr (.inl ⟨a, _, vs, rfl, rfl, h1, (by omega), (by omega), ?_, q.lst dom (h2.rep _)⟩)
      have h1 : vs.length ≤ 1000 := by omega
      have h2 := Nat.mul_le_mul h1 (show (Int.toNat _) ≤ 1000 from Int.toNat_le.mpr hz.2.1)
      exact Nat.le_trans h2 (by decide)
    · exact q.elim
def opFdiv : D → D → R D
  | .int i, .int j => if 0 < j ∧ j < 1073741824 then .ok (.int (i / j)) else .stuck
  | _, _ => .stuck
theorem op_fdivD : OpR X (binaryOp .FloorDiv) (rD T opFdiv) := by
  refine OpR.imp op_fdiv fun v w H Q h => ?_
  obtain ⟨O, A, x, y, dom, hx, hy, q⟩ := h
  cases x <;> cases y <;> try exact q.elim
  obtain rfl := hx.int; obtain rfl := hy.int
  simp only [opFdiv] at q
  split at q
  · exact ⟨_, _, rfl, rfl, by assumption, q.int⟩
  · exact q.elim
def opMod : D → D → R D
  | .int i, .int j => if 0 < j then .ok (.int (i % j)) else .stuck
  | _, _ => .stuck
theorem op_modD : OpR X (binaryOp .Mod) (rD T opMod) := by
  refine OpR.imp op_mod fun v w H Q h => ?_
  obtain ⟨O, A, x, y, dom, hx, hy, q⟩ := h
  cases x <;> cases y <;> try exact q.elim
  obtain rfl := hx.int; obtain rfl := hy.int
  simp only [opMod] at q
  split at q
  · exact ⟨_, _, rfl, rfl, by assumption, q.int⟩
  · exact q.elim

/-! ### comparisons -/
def opEq (x y : D) : R D := match x.toP, y.toP with
  | some p, some q => if SeqAt.shaped p && SeqAt.shaped q then .ok (.bl (PyData.eqv p q)) else .stuck
  | _, _ => .stuck
def opNe (x y : D) : R D := match x.toP, y.toP with
  | some p, some q => if SeqAt.shaped p && SeqAt.shaped q then .ok (.bl (!PyData.eqv p q)) else .stuck
  | _, _ => .stuck
theorem op_eqDD (hK : X.K = T.K) (hu : X.A.units + 64 < cLine) : OpR X (compareOp .Eq) (rD T opEq) := by
  refine OpR.imp (op_eqD hu) fun v w H Q h => ?_
  obtain ⟨O, A, x, y, dom, hx, hy, q⟩ := h
  unfold opEq at q
  split at q
  · rename_i p p' e1 e2
    split at q
    · rename_i hs
      rw [Bool.and_eq_true] at hs
      exact ⟨p, p', by rw [hK]; exact hx.dp e1, by rw [hK]; exact hy.dp e2, hs.1, hs.2, q.bl⟩
    · exact q.elim
  · exact q.elim
theorem op_neDD (hK : X.K = T.K) (hu : X.A.units + 64 < cLine) : OpR X (compareOp .NotEq) (rD T opNe) := by
  refine OpR.imp (op_neD hu) fun v w H Q h => ?_
  obtain ⟨O, A, x, y, dom, hx, hy, q⟩ := h
  unfold opNe at q
  split at q
  · rename_i p p' e1 e2
    split at q
    · rename_i hs
      rw [Bool.and_eq_true] at hs
      exact ⟨p, p', by rw [hK]; exact hx.dp e1, by rw [hK]; exact hy.dp e2, hs.1, hs.2, q.bl⟩
    · exact q.elim
  · exact q.elim
def opCmp (p : Int → Int → Bool) : D → D → R D
  | .int i, .int j => .ok (.bl (p i j))
  | _, _ => .stuck
theorem op_cmpD {op : CmpOp} {p : Int → Int → Bool} (h : OpR X (compareOp op) (rI0 fun i j => .bl (p i j))) : OpR X (compareOp op) (rD T (opCmp p)) := by
  refine OpR.imp h fun v w H Q h => ?_
  obtain ⟨O, A, x, y, dom, hx, hy, q⟩ := h
  cases x <;> cases y <;> try exact q.elim
  obtain rfl := hx.int; obtain rfl := hy.int
  exact ⟨_, _, rfl, rfl, q.bl⟩
/-- x in y: items of a list as deep data -/
def opIn (x y : D) : R D := match x.toP, y.toP with
  | some p, some (.list qs) => if SeqAt.shaped p && SeqAt.shaped (.list qs) then .ok (.bl (qs.any fun z => PyData.eqv z p)) else .stuck
  | _, _ => .stuck
def opNin (x y : D) : R D := match x.toP, y.toP with
  | some p, some (.list qs) => if SeqAt.shaped p && SeqAt.shaped (.list qs) then .ok (.bl (!qs.any fun z => PyData.eqv z p)) else .stuck
  | _, _ => .stuck
/-- is None -/
def opIsN : D → D → R D
  | .non, .non => .ok (.bl true)
  | _, .non => .ok (.bl false)
  | _, _ => .stuck
def opNotN : D → D → R D
  | .non, .non => .ok (.bl false)
  | _, .non => .ok (.bl true)
  | _, _ => .stuck
def D.isNon : D → Bool
  | .non => true
  | _ => false
theorem SDen.isN {d : D} {v : V} (h : SDen T O A H d v) : decide (v = .non) = d.isNon := by
  cases d with
  | non => rw [h.non]; rfl
  | bl b => rw [h.bl]; rfl
  | int b => rw [h.int]; rfl
  | str b => rw [h.str]; rfl
  | tup b => obtain ⟨_, _, rfl, _⟩ := h.tup; rfl
  | lst b => obtain ⟨_, _, rfl, _⟩ := h.lst; rfl
  | scr b => obtain ⟨_, rfl, _⟩ := h.scr; rfl
  | ins c fs => obtain ⟨_, _, _, rfl, _⟩ := h.ins; rfl
  | dct a b => obtain ⟨_, _, rfl, _⟩ := h; rfl
  | fn i => rw [show v = .ref (T.cls i) by simpa [SDen, Den] using h]; rfl
  | drw b =>
    have h : Den T A H (.drw b) v := h
    simp only [Den] at h
    obtain ⟨_, _, rfl, _⟩ := h; rfl
theorem op_isND : OpR X (compareOp .Is) (rD T opIsN) := by
  refine OpR.imp op_isN fun v w H Q h => ?_
  obtain ⟨O, A, x, y, dom, hx, hy, q⟩ := h
  have e := hx.isN
  cases y with
  | non =>
    refine ⟨hy.non, ?_⟩
    rw [e]
    cases x <;> exact q.bl
  | _ => cases x <;> exact q.elim
theorem op_notND : OpR X (compareOp .IsNot) (rD T opNotN) := by
  refine OpR.imp op_notN fun v w H Q h => ?_
  obtain ⟨O, A, x, y, dom, hx, hy, q⟩ := h
  have e := hx.isN
  cases y with
  | non =>
    refine ⟨hy.non, ?_⟩
    rw [e]
    cases x <;> exact q.bl
  | _ => cases x <;> exact q.elim
end
end BV
set_option Elab.async false
set_option linter.all false
set_option maxRecDepth 100000
namespace BV
open PySem L2
open Evl (Ex)

/-- the context of an expression -/
structure Cok (T : Tb) (N : List Str) (sc : Scope) (W : WX) (k : Nat) (fb : Bool) (X : Cx) : Prop where
  hP : X.prog = T.prog
  hw : X.w = T.w
  hmg : X.mg = T.mg
  hbase : X.base = T.base
  hfn : fb = true → ∀ x, X.fn x = true
  hK : X.K = T.K
  nd : N.Nodup
  hN : X.N = N
  hsc : X.env.scope = sc
  calm : X.calm = true
  tk : Takes X W
  room : Room k X.A
theorem Cok.u64 {T : Tb} {N : List Str} {sc : Scope} {W : WX} {k : Nat} {fb : Bool} {X : Cx} (c : Cok T N sc W k fb X) : X.A.units + 64 < cLine := c.room.units
theorem Cok.u65 {T : Tb} {N : List Str} {sc : Scope} {W : WX} {k : Nat} {fb : Bool} {X : Cx} (c : Cok T N sc W k fb X) : X.A.units + 65 < cLine := by have := c.room.un; omega

def PostQ (T : Tb) (W : WX) (O A : AP) (σ : L2.St) (H : Hp) (r : R (List D)) (Q : List V → Hp → Prop) : Prop := match r with
  | .ok ds => ∀ vs H', Ex H H' → SDens T O A H' ds vs → Q vs H'
  | .err c fs => ∀ x H', Ex H H' → ErrDen T A H' c fs x → W (.ref (T.cls c)) x σ H'
  | .stuck => False
  | .any k => ∀ i, PostQ T W O A σ H (k i) Q
def tPs (T : Tb) (W : WX) (f : Rho → R (List D)) : TA := fun σ H Q => ∃ H0 O ρ, Rel T H0 O σ H ρ ∧ PostQ T W O (Av O σ ρ) σ H (f ρ) Q
def R.lf {α : Type} : R α → Bool
  | .ok _ => true
  | .stuck => true
  | _ => false

section
variable {T : Tb} {N : List Str} {sc : Scope} {W : WX} {k : Nat} {fb : Bool} {X : Cx} {O A : AP} {H0 H H' : Hp} {σ : L2.St} {ρ : Rho}
variable {a b c : Expr} {f g h : Rho → R D} {pos : Pos} {es : List Expr}
theorem SDens.ex : ∀ {ds : List D} {vs : List V}, SDens T O A H ds vs → Ex H H' → SDens T O A H' ds vs
  | [], _, h, _ => h
  | _ :: _, _, h, e => by
    obtain ⟨v, r, e1, e2, e3⟩ := h
    exact ⟨v, r, e1, e2.ex e, e3.ex e⟩
theorem tPs.bind {f : Rho → R (List D)} {k : List D → R D} {Q : VK} {R' : List V → Hp → Prop} (r : Rel T H0 O σ H ρ) (h : Post T W (Av O σ ρ) σ H ((f ρ).bind k) Q)
    (q : ∀ ds vs H1, Leaf (f ρ) ds → Ex H H1 → Rel T H0 O σ H1 ρ → SDens T O (Av O σ ρ) H1 ds vs → Post T W (Av O σ ρ) σ H1 (k ds) Q → R' vs H1) : tPs T W f σ H R' := by
  refine ⟨H0, O, ρ, r, ?_⟩
  generalize f ρ = r0 at h q ⊢
  induction r0 with
  | ok d => exact fun v H1 e1 hd => q d v H1 (.ok d) e1 (r.mono e1) hd (Post.mono (r := k d) h e1)
  | err c fs => exact h
  | stuck => exact h
  | any k0 ih => exact fun i => ih i (h i) fun d v H1 l => q d v H1 (.any l)
/-! ### names and constants -/
def rdV (i : Nat) (ρ : Rho) : R D := match ρ[i]? with
  | some (some (false, d)) => .ok d
  | _ => .stuck
def rdP (i : Nat) (ρ : Rho) : R D := match ρ[i]? with
  | some (some (false, d)) => .ok d
  | some (some (true, .lst ds)) => .ok (.lst ds)
  | some (some (true, .dct ks vs)) => .ok (.dct ks vs)
  | _ => .stuck
theorem be_var (C : Cok T N sc W k fb X) {i : Nat} {x : Str} (hN : N[i]? = some x) (hv : Vis sc x) (hd : (x == ("__debug__" : Str)) = false) (hcd : (x == ("__classdict__" : Str)) = false) : PE X (.Name x pos) (tB T W (rdV i)) := by
  refine pe_imp (pe_var (i := i) (by rw [C.hN]; exact hN) (by rw [C.hsc]; exact hv) hd hcd) fun σ H Q ⟨H0, O, ρ, r, p⟩ => ?_
  unfold rdV at p
  split at p
  · rename_i d e
    obtain ⟨v, e1, e2⟩ := r.val i d e
    exact ⟨v, e1, p v H (Ex.refl H) e2⟩
  · exact p.elim
theorem bp_var (C : Cok T N sc W k fb X) {i : Nat} {x : Str} (hN : N[i]? = some x) (hv : Vis sc x) (hd : (x == ("__debug__" : Str)) = false) (hcd : (x == ("__classdict__" : Str)) = false) : PE X (.Name x pos) (tP T W (rdP i)) := by
  refine pe_imp (pe_var (i := i) (by rw [C.hN]; exact hN) (by rw [C.hsc]; exact hv) hd hcd) fun σ H Q ⟨H0, O, ρ, r, p⟩ => ?_
  unfold rdP at p
  split at p
  · rename_i d e
    obtain ⟨v, e1, e2⟩ := r.val i d e
    exact ⟨v, e1, p v H (Ex.refl H) e2.s⟩
  · rename_i ds e
    obtain ⟨a, e1, e2, vs, e3, e4⟩ := r.own i _ e
    exact ⟨_, e1, p _ H (Ex.refl H) ⟨a, vs, rfl, e3, fun z => e2.2 z, e4⟩⟩
  · rename_i ks ds e
    obtain ⟨a, e1, e2, es, e3, e4, e5, e6⟩ := r.own i _ e
    exact ⟨_, e1, p _ H (Ex.refl H) ⟨a, es, rfl, e3, fun z => e2.2 z, e4, e5, e6⟩⟩
  · exact p.elim
theorem be_const {e : Expr} {d : D} {v : V} (h : PE X e (tC v)) (hd : ∀ A H, Den T A H d v) : PE X e (tB T W fun _ => .ok d) :=
  pe_imp h fun σ H Q ⟨H0, O, ρ, r, p⟩ => p v H (Ex.refl H) (hd _ _)

/-! ### operators -/
def bin2 (F : D → D → R D) (f g : Rho → R D) : Rho → R D := fun ρ => (f ρ).bind fun x => (g ρ).bind fun y => F x y
theorem post_ok {r : R D} {Q : VK} (hn : r.lf = true) (h : Post T W A σ H r Q) : okP T A H r Q := by
  cases r with
  | ok d => exact h
  | err c fs => cases hn
  | stuck => exact h
  | any k => cases hn
/-- an operation that raises nothing -/
def NoErr2 (F : D → D → R D) : Prop := ∀ x y, (F x y).lf = true
theorem tOp_of {F : D → D → R D} (hF : NoErr2 F) {Q : VK} (h : tB T W (bin2 F f g) σ H Q) : tOp (rD T F) (tP T W f) (tP T W g) σ H Q := by
  obtain ⟨H0, O, ρ, r, p⟩ := h
  refine tP.bind r p fun x v H1 _ e1 r1 d1 p1 => tP.bind r1 p1 fun y w H2 _ e2 r2 d2 p2 => ?_
  exact ⟨O, Av O σ ρ, x, y, r2.avdom, d1.ex e2, d2, post_ok (hF x y) p2⟩
theorem be_bin {op : Operator} {F : D → D → R D} (hF : NoErr2 F) (ho : OpR X (binaryOp op) (rD T F)) (ha : PE X a (tP T W f)) (hb : PE X b (tP T W g)) : PE X (.BinOp a op b pos) (tB T W (bin2 F f g)) :=
  pe_imp (pe_op ho ha hb) fun _ _ _ h => tOp_of hF h
theorem be_cmp {op : CmpOp} {F : D → D → R D} (hF : NoErr2 F) (ho : OpR X (compareOp op) (rD T F)) (ha : PE X a (tP T W f)) (hb : PE X b (tP T W g)) (hm : behindInMarks op b = false) : PE X (.Compare a [op] [b] pos) (tB T W (bin2 F f g)) :=
  pe_imp (pe_cmpR ho ha hb hm) fun _ _ _ h => tOp_of hF h
/-- a test from a value -/
def tst (f : Rho → R D) : Rho → R Bool := fun ρ => (f ρ).bind truth
theorem tB_of_tst {Q : Bool → Hp → Prop} {f : Rho → R D} (h : tBT T W (tst f) σ H Q) : tB T W f σ H fun x H' => ∃ k, x = .bl k ∧ Q k H' := by
  obtain ⟨H0, O, ρ, r, p⟩ := h
  refine ⟨H0, O, ρ, r, ?_⟩
  unfold tst at p
  generalize f ρ = r0 at p ⊢
  induction r0 with
  | ok d =>
    cases d with
    | bl b => exact fun v H' ex hd => ⟨b, by simpa [Den] using hd, p H' ex⟩
    | _ => exact p.elim
  | err c fs => exact p
  | stuck => exact p
  | any k0 ih => exact fun i => ih i (p i)
theorem bt_cmp {op : CmpOp} {F : D → D → R D} (hF : NoErr2 F) (ho : OpR X (compareOp op) (rD T F)) (ha : PE X a (tP T W f)) (hb : PE X b (tP T W g)) (hm : behindInMarks op b = false) : PT X (.Compare a [op] [b] pos) (tBT T W (tst (bin2 F f g))) :=
  pt_imp (pt_cmpR ho ha hb hm) fun _ _ _ h => tOp_of hF (tB_of_tst h)
def chn (F G : D → D → R D) (f g h : Rho → R D) : Rho → R D := fun ρ => (f ρ).bind fun x => (g ρ).bind fun y => (F x y).bind fun z => (truth z).bind fun
  | true => (h ρ).bind fun w => G y w
  | false => .ok (.bl false)
theorem tChain_of {F G : D → D → R D} (hF : NoErr2 F) (hG : NoErr2 G) {Q : VK} (q : tB T W (chn F G f g h) σ H Q) : tChain (rD T F) (rD T G) (tP T W f) (tP T W g) (tP T W h) σ H Q := by
  obtain ⟨H0, O, ρ, r, p⟩ := q
  refine tP.bind r p fun x v H1 _ e1 r1 d1 p1 => tP.bind r1 p1 fun y w H2 _ e2 r2 d2 p2 => ?_
  refine ⟨O, Av O σ ρ, x, y, r2.avdom, d1.ex e2, d2, ?_⟩
  cases e : F x y with
  | err c fs => have z := hF x y; rw [e] at z; cases z
  | any k => have z := hF x y; rw [e] at z; cases z
  | stuck => rw [e] at p2; exact p2
  | ok z =>
    rw [e] at p2
    cases z with
    | bl b =>
      refine fun v' H3 e3 hd => ⟨b, by simpa [Den] using hd, ?_⟩
      have p3 := p2.mono e3
      cases b with
      | true =>
        rw [if_pos rfl]
        exact tP.bind (r2.mono e3) p3 fun u w' H4 _ e4 r4 d4 p4 => ⟨O, Av O σ ρ, y, u, r4.avdom, (d2.ex e3).ex e4, d4, post_ok (hG y u) p4⟩
      | false =>
        rw [if_neg Bool.false_ne_true]
        exact p3 _ H3 (Ex.refl H3) (by simp [Den])
    | _ => exact p2.elim
theorem be_chn {op op' : CmpOp} {F G : D → D → R D} (hF : NoErr2 F) (hG : NoErr2 G) (ho : OpR X (compareOp op) (rD T F)) (ho' : OpR X (compareOp op') (rD T G)) (ha : PE X a (tP T W f)) (hb : PE X b (tP T W g)) (hc : PE X c (tP T W h))
    (hm : lastMarks [op, op'] [b, c] = false) : PE X (.Compare a [op, op'] [b, c] pos) (tB T W (chn F G f g h)) :=
  pe_imp (pe_chain ho ho' ha hb hc hm) fun _ _ _ h => tChain_of hF hG h
theorem bt_chn {op op' : CmpOp} {F G : D → D → R D} (hF : NoErr2 F) (hG : NoErr2 G) (ho : OpR X (compareOp op) (rD T F)) (ho' : OpR X (compareOp op') (rD T G)) (ha : PE X a (tP T W f)) (hb : PE X b (tP T W g)) (hc : PE X c (tP T W h))
    (hm : lastMarks [op, op'] [b, c] = false) : PT X (.Compare a [op, op'] [b, c] pos) (tBT T W (tst (chn F G f g h))) :=
  pt_imp (pt_chain ho ho' ha hb hc hm) fun _ _ _ h => tChain_of hF hG (tB_of_tst h)

/-! ### and, or, not, if -/
theorem bt_val {e : Expr} {f : Rho → R D} (h : PE X e (tB T W f)) (he : ∀ whole, isTrue e X.env whole = (do let v ← whole; standAt e.pos; holding [v] (truthy v))) : PT X e (tBT T W (tst f)) :=
  pt_imp (pt_val h he) fun _ _ _ h => tB_of_tst h
def notB (f : Rho → R Bool) : Rho → R Bool := fun ρ => (f ρ).bind fun b => .ok (!b)
def andB (f g : Rho → R Bool) : Rho → R Bool := fun ρ => (f ρ).bind fun b => if b then g ρ else .ok false
def orB (f g : Rho → R Bool) : Rho → R Bool := fun ρ => (f ρ).bind fun b => if b then .ok true else g ρ
theorem tBT.bindT {f : Rho → R Bool} {k : Bool → R Bool} {Q R' : Bool → Hp → Prop} (r : Rel T H0 O σ H ρ) (h : PostT T W (Av O σ ρ) σ H ((f ρ).bind k) Q)
    (q : ∀ b H1, Leaf (f ρ) b → Ex H H1 → Rel T H0 O σ H1 ρ → PostT T W (Av O σ ρ) σ H1 (k b) Q → R' b H1) : tBT T W f σ H R' := by
  refine ⟨H0, O, ρ, r, ?_⟩
  generalize f ρ = r0 at h q ⊢
  induction r0 with
  | ok d => exact fun H1 e1 => q d H1 (.ok d) e1 (r.mono e1) (PostT.mono (r := k d) h e1)
  | err c fs => exact h
  | stuck => exact h
  | any k0 ih => exact fun i => ih i (h i) fun d H1 l => q d H1 (.any l)
theorem bt_not {f : Rho → R Bool} (h : PT X a (tBT T W f)) : PT X (.UnaryOp .Not a pos) (tBT T W (notB f)) :=
  pt_imp (pt_not h) fun σ H Q ⟨H0, O, ρ, r, p⟩ => tBT.bindT r p fun b H1 _ e1 _ p1 => p1 H1 (Ex.refl H1)
theorem bw_and1 {f : Rho → R Bool} (h : PT X a (tBT T W f)) : PW X (.BoolOp .And [a] pos) (tBT T W f) := pw_and1 h
theorem bw_or1 {f : Rho → R Bool} (h : PT X a (tBT T W f)) : PW X (.BoolOp .Or [a] pos) (tBT T W f) := pw_or1 h
theorem bw_and {f g : Rho → R Bool} (h : PT X a (tBT T W f)) (h2 : PW X (.BoolOp .And (b :: es) pos) (tBT T W g)) : PW X (.BoolOp .And (a :: b :: es) pos) (tBT T W (andB f g)) :=
  pw_imp (pw_and h h2) fun σ H Q ⟨H0, O, ρ, r, p⟩ => tBT.bindT r p fun b H1 _ e1 r1 p1 => by
    cases b with
    | true => exact ⟨H0, O, ρ, r1, p1⟩
    | false => exact p1 H1 (Ex.refl H1)
theorem bw_or {f g : Rho → R Bool} (h : PT X a (tBT T W f)) (h2 : PW X (.BoolOp .Or (b :: es) pos) (tBT T W g)) : PW X (.BoolOp .Or (a :: b :: es) pos) (tBT T W (orB f g)) :=
  pw_imp (pw_or h h2) fun σ H Q ⟨H0, O, ρ, r, p⟩ => tBT.bindT r p fun b H1 _ e1 r1 p1 => by
    cases b with
    | true => exact p1 H1 (Ex.refl H1)
    | false => exact ⟨H0, O, ρ, r1, p1⟩
/-- as values: all but the last are bools -/
def andV (f g : Rho → R D) : Rho → R D := fun ρ => (f ρ).bind fun x => (truth x).bind fun b => if b then g ρ else .ok (.bl false)
def orV (f g : Rho → R D) : Rho → R D := fun ρ => (f ρ).bind fun x => (truth x).bind fun b => if b then .ok (.bl true) else g ρ
def notV (f : Rho → R D) : Rho → R D := fun ρ => (f ρ).bind fun x => (truth x).bind fun b => .ok (.bl (!b))
theorem be_one {op : BoolOp} (h : PE X a (tB T W f)) : PE X (.BoolOp op [a] pos) (tB T W f) := pe_one h
theorem be_and (h1 : PE X a (tB T W f)) (h2 : PE X (.BoolOp .And (b :: es) pos) (tB T W g)) : PE X (.BoolOp .And (a :: b :: es) pos) (tB T W (andV f g)) :=
  pe_imp (pe_and h1 h2) fun σ H Q ⟨H0, O, ρ, r, p⟩ => tB.bind r p fun x v H1 _ e1 r1 d1 p1 => by
    cases x with
    | bl b =>
      refine ⟨b, by simpa [Den] using d1, ?_⟩
      cases b with
      | true => exact ⟨H0, O, ρ, r1, p1⟩
      | false => exact p1 _ H1 (Ex.refl H1) (by simp [Den])
    | _ => exact p1.elim
theorem be_or (h1 : PE X a (tB T W f)) (h2 : PE X (.BoolOp .Or (b :: es) pos) (tB T W g)) : PE X (.BoolOp .Or (a :: b :: es) pos) (tB T W (orV f g)) :=
  pe_imp (pe_or h1 h2) fun σ H Q ⟨H0, O, ρ, r, p⟩ => tB.bind r p fun x v H1 _ e1 r1 d1 p1 => by
    cases x with
    | bl b =>
      refine ⟨b, by simpa [Den] using d1, ?_⟩
      cases b with
      | true => exact p1 _ H1 (Ex.refl H1) (by simp [Den])
      | false => exact ⟨H0, O, ρ, r1, p1⟩
    | _ => exact p1.elim
theorem be_not (h1 : PE X a (tB T W f)) : PE X (.UnaryOp .Not a pos) (tB T W (notV f)) :=
  pe_imp (pe_not h1) fun σ H Q ⟨H0, O, ρ, r, p⟩ => tB.bind r p fun x v H1 _ e1 r1 d1 p1 => by
    cases x with
    | bl b => exact ⟨b, by simpa [Den] using d1, p1 _ H1 (Ex.refl H1) (by simp [Den])⟩
    | _ => exact p1.elim
def iteV (t : Rho → R Bool) (f g : Rho → R D) : Rho → R D := fun ρ => (t ρ).bind fun b => if b then f ρ else g ρ
theorem be_ite {t : Rho → R Bool} (hc : PT X c (tBT T W t)) (ha : PE X a (tB T W f)) (hb : PE X b (tB T W g)) : PE X (.IfExp c a b pos) (tB T W (iteV t f g)) :=
  pe_imp (pe_ifExp hc ha hb) fun σ H Q ⟨H0, O, ρ, r, p⟩ => tBT.bind r p fun b H1 _ e1 r1 p1 => by
    cases b with
    | true => exact ⟨H0, O, ρ, r1, p1⟩
    | false => exact ⟨H0, O, ρ, r1, p1⟩

/-! ### lists of expressions -/
def nilL : Rho → R (List D) := fun _ => .ok []
def consL (f : Rho → R D) (g : Rho → R (List D)) : Rho → R (List D) := fun ρ => (f ρ).bind fun x => (g ρ).bind fun xs => .ok (x :: xs)
theorem tB.bindL {f : Rho → R D} {k : D → R (List D)} {Q : List V → Hp → Prop} {R' : VK} (r : Rel T H0 O σ H ρ) (h : PostL T W (Av O σ ρ) σ H ((f ρ).bind k) Q)
    (q : ∀ d v H1, Leaf (f ρ) d → Ex H H1 → Rel T H0 O σ H1 ρ → Den T (Av O σ ρ) H1 d v → PostL T W (Av O σ ρ) σ H1 (k d) Q → R' v H1) : tB T W f σ H R' := by
  refine ⟨H0, O, ρ, r, ?_⟩
  generalize f ρ = r0 at h q ⊢
  induction r0 with
  | ok d => exact fun v H1 e1 hd => q d v H1 (.ok d) e1 (r.mono e1) hd (PostL.mono (r := k d) h e1)
  | err c fs => exact h
  | stuck => exact h
  | any k0 ih => exact fun i => ih i (h i) fun d v H1 l => q d v H1 (.any l)
theorem tBs.bindL {f : Rho → R (List D)} {k : List D → R (List D)} {Q R' : List V → Hp → Prop} (r : Rel T H0 O σ H ρ) (h : PostL T W (Av O σ ρ) σ H ((f ρ).bind k) Q)
    (q : ∀ d v H1, Leaf (f ρ) d → Ex H H1 → Rel T H0 O σ H1 ρ → Dens T (Av O σ ρ) H1 d v → PostL T W (Av O σ ρ) σ H1 (k d) Q → R' v H1) : tBs T W f σ H R' := by
  refine ⟨H0, O, ρ, r, ?_⟩
  generalize f ρ = r0 at h q ⊢
  induction r0 with
  | ok d => exact fun v H1 e1 hd => q d v H1 (.ok d) e1 (r.mono e1) hd (PostL.mono (r := k d) h e1)
  | err c fs => exact h
  | stuck => exact h
  | any k0 ih => exact fun i => ih i (h i) fun d v H1 l => q d v H1 (.any l)
theorem ba_nil : PA X [] (tBs T W nilL) := pa_imp pa_nil fun σ H Q ⟨H0, O, ρ, r, p⟩ => p [] H (Ex.refl H) .nil
theorem tCons_of {fl : Rho → R (List D)} {Q : List V → Hp → Prop} (h : tBs T W (consL f fl) σ H Q) : tCons (tB T W f) (tBs T W fl) σ H Q := by
  obtain ⟨H0, O, ρ, r, p⟩ := h
  exact tB.bindL r p fun x v H1 _ e1 r1 d1 p1 => tBs.bindL r1 p1 fun xs vs H2 _ e2 r2 d2 p2 => p2 (v :: vs) H2 (Ex.refl H2) (.cons (d1.ex e2) d2)
theorem ba_cons {fl : Rho → R (List D)} (h1 : PE X a (tB T W f)) (h2 : PA X es (tBs T W fl)) (hs : starEach (a :: es) X.env = (false, eval a X.env) :: starEach es X.env) : PA X (a :: es) (tBs T W (consL f fl)) :=
  pa_imp (pa_cons h1 h2 hs) fun _ _ _ h => tCons_of h
/-- weak ones -/
theorem bq_nil : PA X [] (tPs T W nilL) := pa_imp pa_nil fun σ H Q ⟨H0, O, ρ, r, p⟩ => p [] H (Ex.refl H) rfl
theorem bq_cons {fl : Rho → R (List D)} (h1 : PE X a (tP T W f)) (h2 : PA X es (tPs T W fl)) (hs : starEach (a :: es) X.env = (false, eval a X.env) :: starEach es X.env) : PA X (a :: es) (tPs T W (consL f fl)) :=
  pa_imp (pa_cons h1 h2 hs) fun σ H Q ⟨H0, O, ρ, r, p⟩ => by
    refine ⟨H0, O, ρ, r, ?_⟩
    unfold consL at p
    generalize f ρ = r0 at p ⊢
    induction r0 with
    | err c fs => exact p
    | stuck => exact p
    | any k0 ih => exact fun i => ih i (p i)
    | ok x =>
      refine fun v H1 e1 d1 => ⟨H0, O, ρ, r.mono e1, ?_⟩
      have p : PostQ T W O (Av O σ ρ) σ H ((fl ρ).bind fun xs => .ok (x :: xs)) Q := p
      generalize fl ρ = r1 at p ⊢
      induction r1 with
      | err c fs => exact fun y H2 e2 => p y H2 (e1.trans e2)
      | stuck => exact p
      | ok xs => exact fun vs H2 e2 d2 => p (v :: vs) H2 (e1.trans e2) ⟨v, vs, rfl, d1.ex e2, d2⟩
      | any k0 ih => exact fun i => ih i (p i)
def mkT (fl : Rho → R (List D)) : Rho → R D := fun ρ => (fl ρ).bind fun xs => if xs.length ≤ sizeLine then .ok (.tup xs) else .stuck
def mkL (fl : Rho → R (List D)) : Rho → R D := fun ρ => (fl ρ).bind fun xs => if xs.length ≤ sizeLine then .ok (.lst xs) else .stuck
theorem be_tup {fl : Rho → R (List D)} {x1} (h : PA X es (tBs T W fl)) : PE X (.Tuple es x1 pos) (tB T W (mkT fl)) :=
  pe_imp (pe_tup h) fun σ H Q ⟨H0, O, ρ, r, p⟩ => tBs.bind r p fun xs vs H1 _ e1 r1 d1 p1 => by
    split at p1
    · rename_i hz
      exact ⟨by rw [d1.length]; exact hz, okP.tup p1 d1⟩
    · exact p1.elim
theorem be_lst {fl : Rho → R (List D)} (h : PA X es (tBs T W fl)) : PE X (.List es pos) (tB T W (mkL fl)) :=
  pe_imp (pe_lst h) fun σ H Q ⟨H0, O, ρ, r, p⟩ => tBs.bind r p fun xs vs H1 _ e1 r1 d1 p1 => by
    split at p1
    · rename_i hz
      exact ⟨by rw [d1.length]; exact hz, okP.lst p1 r1.avdom d1⟩
    · exact p1.elim

/-! ### subscripts and slices -/
def atD (ds : List D) (i : Int) : R D := match atI ds i with
  | some d => .ok d
  | none => .stuck
def opIx : D → D → R D
  | .lst ds, .int i => atD ds i
  | .tup ds, .int i => atD ds i
  | .str x, .int i => if x.length ≤ sizeLine then (match atI x.cps.toList i with | some c => .ok (.str ⟨#[c]⟩) | none => .stuck) else .stuck
  | _, _ => .stuck
theorem atI_dens {ds : List D} {vs : List V} {i : Int} {d : D} (h : Dens T A H ds vs) (e : atI ds i = some d) : ∃ v, atI vs i = some v ∧ Den T A H d v := by
  unfold atI at e ⊢
  rw [h.length]
  cases q : ixN ds.length i with
  | none => rw [q] at e; simp at e
  | some j =>
    rw [q] at e
    simp only [Option.bind_some] at e ⊢
    exact h.get e
theorem ix_D (hK : X.K = T.K) : IxR X (rD T opIx) := by
  refine IxR.imp ix_seq fun v w H Q h => ?_
  obtain ⟨O, A, x, y, dom, hx, hy, q⟩ := h
  cases x <;> cases y <;> try exact q.elim
  · obtain rfl := hx.str; obtain rfl := hy.int
    simp only [opIx] at q
    split at q
    · rename_i hz
      split at q
      · rename_i c e
        exact .inr (.inr ⟨_, _, c, rfl, rfl, hz, e, q.str⟩)
      · exact q.elim
    · exact q.elim
  · obtain ⟨a, vs, rfl, h1, h2⟩ := hx.tup; obtain rfl := hy.int
    simp only [opIx, atD] at q
    split at q
    · rename_i d e
      obtain ⟨v, e1, e2⟩ := atI_dens h2 e
      exact .inr (.inl ⟨a, vs, _, v, rfl, rfl, by rw [hK]; exact h1, e1, q.same e2⟩)
    · exact q.elim
  · obtain ⟨a, vs, rfl, h1, h2⟩ := hx.lst; obtain rfl := hy.int
    simp only [opIx, atD] at q
    split at q
    · rename_i d e
      obtain ⟨v, e1, e2⟩ := atI_dens h2 e
      exact .inl ⟨a, vs, _, v, rfl, rfl, .inl (.inl h1), e1, q.same e2⟩
    · exact q.elim
theorem ne_ix : NoErr2 opIx := fun x y => by
  unfold opIx atD
  split <;> (try rfl) <;> split <;> (try rfl) <;> split <;> rfl
theorem be_ix (hK : X.K = T.K) (ha : PE X a (tP T W f)) (hb : PE X b (tP T W g)) (hs : PlainIx b) : PE X (.Subscript a b pos) (tB T W (bin2 opIx f g)) :=
  pe_imp (pe_ix (ix_D hK) ha hb hs) fun _ _ _ h => tOp_of ne_ix h
end
theorem force_PostQ : True := by
  have h1 := @PostQ.eq_def
  have h2 := @PostQ.eq_1
  trivial
end BV
set_option Elab.async false
set_option linter.all false
set_option maxRecDepth 100000
namespace BV
open PySem L2
open Evl (Ex)

section
variable {T : Tb} {N : List Str} {sc : Scope} {W : WX} {k : Nat} {fb : Bool} {X : Cx} {O A : AP} {H0 H H' : Hp} {σ : L2.St} {ρ : Rho} {Q : VK}
variable {a b c e : Expr} {f g h : Rho → R D} {fl : Rho → R (List D)} {p pos : Pos} {es : List Expr} {x : Str}

def NoErr1 (F : List D → R D) : Prop := ∀ x, (F x).lf = true
def appL (F : List D → R D) (fl : Rho → R (List D)) : Rho → R D := fun ρ => (fl ρ).bind F
theorem tCB_of {F : List D → R D} (hF : NoErr1 F) {Q : VK} (h : tB T W (appL F fl) σ H Q) : tCB (rC T F) (tPs T W fl) σ H Q := by
  obtain ⟨H0, O, ρ, r, p⟩ := h
  exact tPs.bind r p fun ds vs H1 _ e1 r1 d1 p1 => ⟨O, Av O σ ρ, ds, r1.avdom, d1, post_ok (hF ds) p1⟩
theorem be_callB {id : String} {F : List D → R D} (hF : NoErr1 F) (hc : CallR X (.builtin id) (rC T F)) (hg : Gl X x) (hm : X.mg x = none) (hv : bootBuiltins x = some (.builtin id)) (ha : PA X (e :: es) (tPs T W fl)) (hn : x ≠ "__name__") (hdb : (x == ("__debug__" : Str)) = false)
    (he : starEach (e :: es) X.env = (false, eval e X.env) :: starEach es X.env) (hpl : (backTo pos (starEach es X.env)).any (·.1) = false) : PE X (.Call (.Name x p) (e :: es) [] pos) (tB T W (appL F fl)) :=
  pe_imp (pe_callB hc hg hm hv ha hn hdb he hpl) fun _ _ _ h => tCB_of hF h
theorem be_callTy {id : String} {F : List D → R D} (hF : NoErr1 F) (hc : CallR X (.type id) (rC T F)) (hg : Gl X x) (hm : X.mg x = none) (hv : bootBuiltins x = some (.type id)) (ha : PA X (e :: es) (tPs T W fl)) (hn : x ≠ "__name__") (hdb : (x == ("__debug__" : Str)) = false)
    (he : starEach (e :: es) X.env = (false, eval e X.env) :: starEach es X.env) (hpl : (backTo pos (starEach es X.env)).any (·.1) = false) : PE X (.Call (.Name x p) (e :: es) [] pos) (tB T W (appL F fl)) :=
  pe_imp (pe_callTy hc hg hm hv ha hn hdb he hpl) fun _ _ _ h => tCB_of hF h

theorem SDens.one {d : D} {vs : List V} (h : SDens T O A H [d] vs) : ∃ v, vs = [v] ∧ SDen T O A H d v := by
  obtain ⟨v, r, rfl, h1, h2⟩ := h
  have : r = [] := h2
  subst this
  exact ⟨v, rfl, h1⟩
theorem SDens.two {d e : D} {vs : List V} (h : SDens T O A H [d, e] vs) : ∃ v w, vs = [v, w] ∧ SDen T O A H d v ∧ SDen T O A H e w := by
  obtain ⟨v, r, rfl, h1, h2⟩ := h
  obtain ⟨w, rfl, h3⟩ := h2.one
  exact ⟨v, w, rfl, h1, h3⟩

/-! ### the built-ins -/
def biLen : List D → R D
  | [.lst ds] => .ok (.int ds.length)
  | [.tup ds] => .ok (.int ds.length)
  | [.scr ns] => .ok (.int ns.length)
  | [.str x] => if x.length ≤ sizeLine then .ok (.int x.length) else .stuck
  | _ => .stuck
theorem c_len (hK : X.K = T.K) : CallR X (.builtin "len") (rC T biLen) := by
  refine CallR.imp call_len fun vs H Q h => ?_
  obtain ⟨O, A, ds, dom, hd, q⟩ := h
  unfold biLen at q
  split at q
  · obtain ⟨v, rfl, h1⟩ := hd.one
    obtain ⟨a, ws, rfl, h2, h3⟩ := h1.lst
    exact ⟨_, _, rfl, .inl ⟨ws, .inl (.inl h2), rfl⟩, by rw [h3.length]; exact q.int⟩
  · obtain ⟨v, rfl, h1⟩ := hd.one
    obtain ⟨a, ws, rfl, h2, h3⟩ := h1.tup
    exact ⟨_, _, rfl, .inr ⟨ws, by rw [hK]; exact h2, rfl⟩, by rw [h3.length]; exact q.int⟩
  · obtain ⟨v, rfl, h1⟩ := hd.one
    obtain ⟨a, rfl, h2⟩ := h1.scr
    exact ⟨_, _, rfl, .inl ⟨_, by rw [hK]; exact h2.sq, rfl⟩, by rw [List.length_map]; exact q.int⟩
  · obtain ⟨v, rfl, h1⟩ := hd.one
    obtain rfl := h1.str
    split at q
    · rename_i hz
      exact ⟨_, _, rfl, ⟨hz, rfl⟩, q.int⟩
    · exact q.elim
  · exact q.elim
def biInt : List D → R D
  | [.int i] => .ok (.int i)
  | [.bl b] => .ok (.int (if b then 1 else 0))
  | _ => .stuck
theorem c_int : CallR X (.type "int") (rC T biInt) := by
  refine CallR.imp call_int1 fun vs H Q h => ?_
  obtain ⟨O, A, ds, dom, hd, q⟩ := h
  unfold biInt at q
  split at q
  · obtain ⟨v, rfl, h1⟩ := hd.one
    obtain rfl := h1.int
    exact .inl ⟨_, rfl, q.int⟩
  · obtain ⟨v, rfl, h1⟩ := hd.one
    obtain rfl := h1.bl
    exact .inr ⟨_, rfl, q.int⟩
  · exact q.elim
def biAbs : List D → R D
  | [.int i] => .ok (.int (if i < 0 then -i else i))
  | _ => .stuck
theorem c_abs : CallR X (.builtin "abs") (rC T biAbs) := by
  refine CallR.imp call_abs fun vs H Q h => ?_
  obtain ⟨O, A, ds, dom, hd, q⟩ := h
  unfold biAbs at q
  split at q
  · obtain ⟨v, rfl, h1⟩ := hd.one
    obtain rfl := h1.int
    exact ⟨_, rfl, q.int⟩
  · exact q.elim
def biMax2 : List D → R D
  | [.int i, .int j] => .ok (.int (if j > i then j else i))
  | _ => .stuck
theorem c_max2 (hc : X.calm = true) : CallR X (.builtin "max") (rC T biMax2) := by
  refine CallR.imp (call_max2 hc) fun vs H Q h => ?_
  obtain ⟨O, A, ds, dom, hd, q⟩ := h
  unfold biMax2 at q
  split at q
  · obtain ⟨v, w, rfl, h1, h2⟩ := hd.two
    obtain rfl := h1.int; obtain rfl := h2.int
    exact ⟨_, _, rfl, q.int⟩
  · exact q.elim
def biMin2 : List D → R D
  | [.int i, .int j] => .ok (.int (if j < i then j else i))
  | _ => .stuck
theorem c_min2 (hc : X.calm = true) : CallR X (.builtin "min") (rC T biMin2) := by
  refine CallR.imp (call_min2 hc) fun vs H Q h => ?_
  obtain ⟨O, A, ds, dom, hd, q⟩ := h
  unfold biMin2 at q
  split at q
  · obtain ⟨v, w, rfl, h1, h2⟩ := hd.two
    obtain rfl := h1.int; obtain rfl := h2.int
    exact ⟨_, _, rfl, q.int⟩
  · exact q.elim
def intsOf : List D → Option (List Int)
  | [] => some []
  | .int i :: ds => (intsOf ds).map (i :: ·)
  | _ => none
theorem intsOf_eq : ∀ {ds : List D} {ns : List Int}, intsOf ds = some ns → ds = ns.map D.int
  | [], ns, e => by simp [intsOf] at e; subst e; rfl
  | d :: ds, ns, e => by
    cases d <;> simp only [intsOf, Option.map_eq_some_iff, reduceCtorEq] at e
    obtain ⟨ms, e1, rfl⟩ := e
    rw [intsOf_eq e1]; rfl
theorem dens_int : ∀ {ns : List Int} {vs : List V}, Dens T A H (ns.map D.int) vs → vs = ns.map V.int
  | [], _, h => by simpa [Dens] using h
  | n :: ns, _, h => by
    simp only [List.map_cons, Dens] at h
    obtain ⟨v, r, rfl, h1, h2⟩ := h
    rw [show v = V.int n by simpa [Den] using h1, dens_int h2]; rfl
def boolsOf : List D → Option (List Bool)
  | [] => some []
  | .bl i :: ds => (boolsOf ds).map (i :: ·)
  | _ => none
theorem boolsOf_eq : ∀ {ds : List D} {ns : List Bool}, boolsOf ds = some ns → ds = ns.map D.bl
  | [], ns, e => by simp [boolsOf] at e; subst e; rfl
  | d :: ds, ns, e => by
    cases d <;> simp only [boolsOf, Option.map_eq_some_iff, reduceCtorEq] at e
    obtain ⟨ms, e1, rfl⟩ := e
    rw [boolsOf_eq e1]; rfl
theorem dens_bl : ∀ {ns : List Bool} {vs : List V}, Dens T A H (ns.map D.bl) vs → vs = ns.map V.bl
  | [], _, h => by simpa [Dens] using h
  | n :: ns, _, h => by
    simp only [List.map_cons, Dens] at h
    obtain ⟨v, r, rfl, h1, h2⟩ := h
    rw [show v = V.bl n by simpa [Den] using h1, dens_bl h2]; rfl
def biSum : List D → R D
  | [.lst ds] => match intsOf ds with
    | some ns => .ok (.int ns.sum)
    | none => .stuck
  | [.scr ns] => .ok (.int ns.sum)
  | _ => .stuck
theorem c_sum (hK : X.K = T.K) (hc : X.calm = true) : CallR X (.builtin "sum") (rC T biSum) := by
  refine CallR.imp (cr_sum hc) fun vs H Q h => ?_
  obtain ⟨O, A, ds, dom, hd, q⟩ := h
  unfold biSum at q
  split at q
  · obtain ⟨v, rfl, h1⟩ := hd.one
    obtain ⟨a, ws, rfl, h2, h3⟩ := h1.lst
    split at q
    · rename_i ns e
      rw [intsOf_eq e] at h3
      rw [dens_int h3] at h2
      exact ⟨a, ns, rfl, .inl (.inl h2), q.int⟩
    · exact q.elim
  · obtain ⟨v, rfl, h1⟩ := hd.one
    obtain ⟨a, rfl, h2⟩ := h1.scr
    exact ⟨a, _, rfl, by rw [hK]; exact h2.sq, q.int⟩
  · exact q.elim
def biAll : List D → R D
  | [.lst ds] => match boolsOf ds with
    | some bs => .ok (.bl (bs.all id))
    | none => .stuck
  | _ => .stuck
theorem c_all (hc : X.calm = true) : CallR X (.builtin "all") (rC T biAll) := by
  refine CallR.imp (cr_all hc) fun vs H Q h => ?_
  obtain ⟨O, A, ds, dom, hd, q⟩ := h
  unfold biAll at q
  split at q
  · obtain ⟨v, rfl, h1⟩ := hd.one
    obtain ⟨a, ws, rfl, h2, h3⟩ := h1.lst
    split at q
    · rename_i ns e
      rw [boolsOf_eq e] at h3
      rw [dens_bl h3] at h2
      exact ⟨a, ns, rfl, .inl (.inl h2), q.bl⟩
    · exact q.elim
  · exact q.elim
def biAny : List D → R D
  | [.lst ds] => match boolsOf ds with
    | some bs => .ok (.bl (bs.any id))
    | none => .stuck
  | _ => .stuck
theorem c_any (hc : X.calm = true) : CallR X (.builtin "any") (rC T biAny) := by
  refine CallR.imp (cr_any hc) fun vs H Q h => ?_
  obtain ⟨O, A, ds, dom, hd, q⟩ := h
  unfold biAny at q
  split at q
  · obtain ⟨v, rfl, h1⟩ := hd.one
    obtain ⟨a, ws, rfl, h2, h3⟩ := h1.lst
    split at q
    · rename_i ns e
      rw [boolsOf_eq e] at h3
      rw [dens_bl h3] at h2
      exact ⟨a, ns, rfl, .inl (.inl h2), q.bl⟩
    · exact q.elim
  · exact q.elim
def biList : List D → R D
  | [.lst ds] => .ok (.lst ds)
  | [.tup ds] => .ok (.lst ds)
  | [.scr ns] => .ok (.lst (ns.map D.int))
  | _ => .stuck
theorem c_list (hK : X.K = T.K) : CallR X (.type "list") (rC T biList) := by
  refine CallR.imp call_list_of fun vs H Q h => ?_
  obtain ⟨O, A, ds, dom, hd, q⟩ := h
  unfold biList at q
  split at q
  · obtain ⟨v, rfl, h1⟩ := hd.one
    obtain ⟨a, ws, rfl, h2, h3⟩ := h1.lst
    exact ⟨a, ws, rfl, .inl (.inl (.inl h2)), q.lst dom h3⟩
  · obtain ⟨v, rfl, h1⟩ := hd.one
    obtain ⟨a, ws, rfl, h2, h3⟩ := h1.tup
    exact ⟨a, ws, rfl, .inr (by rw [hK]; exact h2), q.lst dom h3⟩
  · obtain ⟨v, rfl, h1⟩ := hd.one
    obtain ⟨a, rfl, h2⟩ := h1.scr
    exact ⟨a, _, rfl, .inl (by rw [hK]; exact h2.sq), q.lst dom (Dens.int _)⟩
  · exact q.elim
def biTuple : List D → R D
  | [.lst ds] => .ok (.tup ds)
  | [.tup ds] => .ok (.tup ds)
  | _ => .stuck
theorem c_tuple (hK : X.K = T.K) : CallR X (.type "tuple") (rC T biTuple) := by
  refine CallR.imp call_tuple_of fun vs H Q h => ?_
  obtain ⟨O, A, ds, dom, hd, q⟩ := h
  unfold biTuple at q
  split at q
  · obtain ⟨v, rfl, h1⟩ := hd.one
    obtain ⟨a, ws, rfl, h2, h3⟩ := h1.lst
    exact ⟨a, ws, rfl, .inl ⟨.inl (.inl h2), q.tup h3⟩⟩
  · obtain ⟨v, rfl, h1⟩ := hd.one
    obtain ⟨a, ws, rfl, h2, h3⟩ := h1.tup
    exact ⟨a, ws, rfl, .inr ⟨by rw [hK]; exact h2, q.same (by simp only [Den]; exact ⟨a, ws, rfl, h2, h3⟩)⟩⟩
  · exact q.elim
def biStr : List D → R D
  | [.int i] => if i.natAbs.log2 < 1920 then .ok (.str (toString i)) else .stuck
  | _ => .stuck
theorem c_str : CallR X (.type "str") (rC T biStr) := by
  refine CallR.imp call_str_int fun vs H Q h => ?_
  obtain ⟨O, A, ds, dom, hd, q⟩ := h
  unfold biStr at q
  split at q
  · obtain ⟨v, rfl, h1⟩ := hd.one
    obtain rfl := h1.int
    split at q
    · exact ⟨_, rfl, by assumption, q.str⟩
    · exact q.elim
  · exact q.elim

/-! ### the built-ins by number -/
inductive Bi where
  | len | int | abs | max2 | min2 | sum | all | any | list | tuple | str
  deriving DecidableEq
def Bi.name : Bi → Str
  | .len => "len" | .int => "int" | .abs => "abs" | .max2 => "max" | .min2 => "min" | .sum => "sum" | .all => "all" | .any => "any" | .list => "list" | .tuple => "tuple" | .str => "str"
def Bi.ev : Bi → List D → R D
  | .len => biLen | .int => biInt | .abs => biAbs | .max2 => biMax2 | .min2 => biMin2 | .sum => biSum | .all => biAll | .any => biAny | .list => biList | .tuple => biTuple | .str => biStr
theorem Bi.noerr (b : Bi) : NoErr1 b.ev := by
  intro x
  cases b <;> show R.lf _ = true <;> simp only [Bi.ev]
  · unfold biLen; split <;> (try rfl) <;> split <;> rfl
  · unfold biInt; split <;> rfl
  · unfold biAbs; split <;> rfl
  · unfold biMax2; split <;> rfl
  · unfold biMin2; split <;> rfl
  · unfold biSum; split <;> (try rfl) <;> split <;> rfl
  · unfold biAll; split <;> (try rfl) <;> split <;> rfl
  · unfold biAny; split <;> (try rfl) <;> split <;> rfl
  · unfold biList; split <;> rfl
  · unfold biTuple; split <;> rfl
  · unfold biStr; split <;> (try rfl) <;> split <;> rfl
theorem be_bi (C : Cok T N sc W k fb X) (b : Bi) (hg : Gl X b.name) (hm : X.mg b.name = none) (ha : PA X (e :: es) (tPs T W fl))
    (he : starEach (e :: es) X.env = (false, eval e X.env) :: starEach es X.env) (hpl : (backTo pos (starEach es X.env)).any (·.1) = false) : PE X (.Call (.Name b.name p) (e :: es) [] pos) (tB T W (appL b.ev fl)) := by
  cases b with
  | len => exact be_callB (Bi.noerr .len) (c_len C.hK) hg hm (by decide +kernel) ha (by decide) (by decide) he hpl
  | int => exact be_callTy (Bi.noerr .int) c_int hg hm (by decide +kernel) ha (by decide) (by decide) he hpl
  | abs => exact be_callB (Bi.noerr .abs) c_abs hg hm (by decide +kernel) ha (by decide) (by decide) he hpl
  | max2 => exact be_callB (Bi.noerr .max2) (c_max2 C.calm) hg hm (by decide +kernel) ha (by decide) (by decide) he hpl
  | min2 => exact be_callB (Bi.noerr .min2) (c_min2 C.calm) hg hm (by decide +kernel) ha (by decide) (by decide) he hpl
  | sum => exact be_callB (Bi.noerr .sum) (c_sum C.hK C.calm) hg hm (by decide +kernel) ha (by decide) (by decide) he hpl
  | all => exact be_callB (Bi.noerr .all) (c_all C.calm) hg hm (by decide +kernel) ha (by decide) (by decide) he hpl
  | any => exact be_callB (Bi.noerr .any) (c_any C.calm) hg hm (by decide +kernel) ha (by decide) (by decide) he hpl
  | list => exact be_callTy (Bi.noerr .list) (c_list C.hK) hg hm (by decide +kernel) ha (by decide) (by decide) he hpl
  | tuple => exact be_callTy (Bi.noerr .tuple) (c_tuple C.hK) hg hm (by decide +kernel) ha (by decide) (by decide) he hpl
  | str => exact be_callTy (Bi.noerr .str) c_str hg hm (by decide +kernel) ha (by decide) (by decide) he hpl
end
end BV
set_option Elab.async false
set_option linter.all false
set_option maxRecDepth 100000
namespace BV
open PySem L2
open Evl (Ex)

/-! ### syntax: no star, named keywords -/
def isStar : Expr → Bool
  | .Starred .. => true
  | _ => false
def noStar (es : List Expr) : Bool := es.all fun e => !isStar e
def kwNames : List Keyword → Option (List Str)
  | [] => some []
  | ⟨some n, _, _⟩ :: r => (kwNames r).map (n :: ·)
  | ⟨none, _, _⟩ :: _ => none
theorem star_cons {e : Expr} {es : List Expr} {env : Env} (h : isStar e = false) : starEach (e :: es) env = (false, eval e env) :: starEach es env := by
  cases e <;> first | rfl | (simp [isStar] at h)
theorem star_any {pos : Pos} {env : Env} : ∀ {es : List Expr}, noStar es = true → (backTo pos (starEach es env)).any (·.1) = false
  | [], _ => rfl
  | e :: es, h => by
    simp only [noStar, List.all_cons, Bool.and_eq_true, Bool.not_eq_true'] at h
    rw [star_cons h.1]
    show (false || (backTo pos (starEach es env)).any (·.1)) = false
    rw [star_any (es := es) h.2]; rfl
theorem star_all {pos : Pos} {env : Env} : ∀ {es : List Expr}, noStar es = true → (backTo pos (starEach es env)).all (!·.1) = true
  | [], _ => rfl
  | e :: es, h => by
    simp only [noStar, List.all_cons, Bool.and_eq_true, Bool.not_eq_true'] at h
    rw [star_cons h.1]
    show (true && (backTo pos (starEach es env)).all (!·.1)) = true
    rw [star_all (es := es) h.2]; rfl
theorem kw_facts {pos : Pos} {env : Env} : ∀ {kws : List Keyword} {ks : List Str}, kwNames kws = some ks →
    (backToKw pos (keywordEach kws env)).all (·.1.isSome) = true ∧ (backToKw pos (keywordEach kws env)).any (·.1.isNone) = false ∧ (backToKw pos (keywordEach kws env)).filterMap (·.1) = ks
  | [], ks, h => by simp only [kwNames, Option.some.injEq] at h; subst h; exact ⟨rfl, rfl, rfl⟩
  | ⟨some n, v, p⟩ :: r, ks, h => by
    simp only [kwNames, Option.map_eq_some_iff] at h
    obtain ⟨ls, h1, rfl⟩ := h
    obtain ⟨a, b, c⟩ := kw_facts (pos := pos) (env := env) h1
    refine ⟨?_, ?_, ?_⟩
    · show (true && (backToKw pos (keywordEach r env)).all (·.1.isSome)) = true; rw [a]; rfl
    · show (false || (backToKw pos (keywordEach r env)).any (·.1.isNone)) = false; rw [b]; rfl
    · show n :: (backToKw pos (keywordEach r env)).filterMap (·.1) = _; rw [c]
  | ⟨none, _, _⟩ :: _, _, h => by simp [kwNames] at h
theorem form_true {pos : Pos} {env : Env} {es : List Expr} {kws : List Keyword} {ks : List Str} (h1 : noStar es = true) (h2 : kwNames kws = some ks) (h3 : es.length + kws.length + 1 < 30) :
    methodCallForm (es.length + kws.length) (backTo pos (starEach es env)) (backToKw pos (keywordEach kws env)) = true := by
  unfold methodCallForm
  obtain ⟨a, b, c⟩ := kw_facts (pos := pos) (env := env) h2
  rw [star_all h1, a]
  simp only [Bool.and_self, Bool.true_and, decide_eq_true_eq]
  split <;> omega
theorem eval_meth {o : Expr} {m : Str} {apos pos : Pos} {es : List Expr} {kws : List Keyword} {ks : List Str} {env : Env} (hb : attributeBase o m env (eval o env) = eval o env) (h1 : noStar es = true) (h2 : kwNames kws = some ks) (h3 : es.length + kws.length + 1 < 30) (hl : (apos.endLine == pos.line) = true) :
    eval (.Call (.Attribute o m apos) es kws pos) env = (do
      let ov ← eval o env
      standAt apos.atName
      let (f, first) ← holding [ov] (getMethod ov m (do return (← importBound o env).getD true))
      callWith pos f first (backTo pos (starEach es env)) (backToKw pos (keywordEach kws env))) := by
  show (do
    let ov ← attributeBase o m env (eval o env)
    standAt apos.atName
    methodCall o m apos pos env ov (es.length + kws.length) (backTo pos (starEach es env)) (backToKw pos (keywordEach kws env))) = _
  rw [hb]
  unfold methodCall calleeOf methodCallPos
  rw [form_true h1 h2 h3, hl]
  rfl

/-! ### what a def promises -/
def PostF (T : Tb) (O : AP) (H : Hp) (r : R D) (Q : VK) (E : XK) : Prop := match r with
  | .ok d => ∀ v H', Ex H H' → Den T O H' d v → Q v H'
  | .err c fs => ∀ x H', Ex H H' → ErrDen T O H' c fs x → E (.ref (T.cls c)) x H'
  | .stuck => False
  | .any k => ∀ i, PostF T O H (k i) Q E
def spB (T : Tb) (n : Nat) (m : List D → R D) : Sp := fun vs H Q E => ∃ O ds, (∀ a, O a → H a ≠ none) ∧ Dens T O H ds vs ∧ ds.length = n ∧ PostF T O H (m ds) Q E
def PostI (T : Tb) (c : Nat) (O : AP) (H1 : Hp) (x : Addr) (r : R (List D)) (Q : VK) (E : XK) : Prop := match r with
  | .ok fs => ∀ H', Ex H1 H' → (∃ dx us, H' x = some (.ins (T.cls c) dx ((T.flds c).zip us)) ∧ us.length = (T.flds c).length ∧ Dens T O H' fs us) → Q .non H'
  | .err c fs => ∀ y H', Ex H1 H' → ErrDen T O H' c fs y → E (.ref (T.cls c)) y H'
  | .stuck => False
  | .any k => ∀ i, PostI T c O H1 x (k i) Q E
/-- __init__ of class c: a new instance at x -/
def spI (T : Tb) (c : Nat) (n : Nat) (m : List D → R (List D)) : Sp := fun vs H Q E => ∃ O ds H1 x dx ws, vs = .ref x :: ws ∧ H = upd (upd H1 dx (.own x)) x (.ins (T.cls c) dx []) ∧ H1 x = none ∧ H1 dx = none ∧ dx ≠ x ∧
  (∀ a, O a → H1 a ≠ none) ∧ Dens T O H1 ds ws ∧ ds.length = n ∧ PostI T c O H1 x (m ds) Q E
/-- where a parameter's value comes from -/
inductive Src where
  | pos (i : Nat) | kw (j : Nat) | df (d : D)
def Src.ev (ds es : List D) : Src → D
  | .pos i => ds.getD i .non
  | .kw j => es.getD j .non
  | .df d => d
def bindS (src : List Src) (ds es : List D) : List D := src.map (Src.ev ds es)
def ShapeOk (T : Tb) (fd : FuncData) (ps : List Str) (n : Nat) (ks : List Str) (src : List Src) : Prop := ∃ g gV, KBn T.K fd ps n ks g gV ∧
  ∀ (O : AP) (H : Hp) (ds : List D) (vs : List V) (es : List D) (zs : List V), Dens T O H ds vs → Dens T O H es zs → ds.length = n → es.length = ks.length → Dens T O H (bindS src ds es) (gV vs zs)

section
variable {T : Tb} {N : List Str} {sc : Scope} {W : WX} {k : Nat} {fb : Bool} {X : Cx} {O A : AP} {H0 H H' : Hp} {σ : L2.St} {ρ : Rho} {Q : VK}
variable {a b c e o : Expr} {f g h : Rho → R D} {fl fk : Rho → R (List D)} {p pos apos : Pos} {es : List Expr} {kws : List Keyword} {x m : Str}
theorem bk_nil : PK X [] (tBs T W nilL) := pk_imp pk_nil fun σ H Q ⟨H0, O, ρ, r, p⟩ => p [] H (Ex.refl H) .nil
theorem bk_cons {nm : Option Str} {kpos : Pos} (h1 : PE X a (tB T W f)) (h2 : PK X kws (tBs T W fl)) : PK X (⟨nm, a, kpos⟩ :: kws) (tBs T W (consL f fl)) :=
  pk_imp (pk_cons h1 h2) fun _ _ _ h => tCons_of h
/-- the value of a call -/
def callF (n m : Nat) (src : List Src) (M : List D → R D) (fl fk : Rho → R (List D)) : Rho → R D := fun ρ => (fl ρ).bind fun ds => (fk ρ).bind fun es => if ds.length = n ∧ es.length = m then M (bindS src ds es) else .stuck
def tCallD (n m : Nat) (sp : Sp) (gV : List V → List V → List V) (W : WX) (t tk : TA) : TE := fun σ H Q => t σ H fun vs H1 => tk σ H1 fun zs H2 => vs.length = n ∧ zs.length = m ∧ sp (gV vs zs) H2 Q (WE W σ)
theorem run_fnD {CX : CXT} {kf n : Nat} {fa : Addr} {fd : FuncData} {ps ks : List Str} {sp : Sp} {E : XK} {gv : List Value → List Value → List Value} {gV : List V → List V → List V} {pins : List (Addr × Obj)} {s : Shared} {us ws : List Value} {vs zs : List V}
    (F : FnOk X.prog X.w X.K X.mg X.base CX kf fa fd ps sp) (hr : Room kf X.A) (hb : KBn X.K fd ps n ks gv gV) (hx : PassesAt CX X σ E)
    (I : Inv X pins σ H s) (r : Vals vs us) (rz : Vals zs ws) (l1 : vs.length = n) (l2 : zs.length = ks.length) (h : sp (gV vs zs) H Q E) : wpAny (model X.prog X.w) X.A (call (.ref fa) us (ks.zip ws)) (EP X pins σ Q) X.xe s := by
  have r2 := hb.rel r rz
  refine wpAny_call (codeAny_mono (F.run X.A X.stack s H ⟨us, ks.zip ws⟩ (gv us ws) (gV vs zs) Q E hr I.env0 (hb.to s us ws I.kIn (r.length.symm.trans l1) (rz.length.symm.trans l2)) r2 h) fun r s' hq => ?_)
  cases r with
  | error e => exact hx pins H s e s' I hq
  | ok fl =>
    cases fl with
    | ret u => exact I.after hq
    | next => exact False.elim hq
    | brk => exact False.elim hq
    | cont => exact False.elim hq
/-- the arguments of a call, any form -/
theorem callWith_any {fv : Value} {first : List Value} {pins : List (Addr × Obj)} {s : Shared} {t tk : TA} {ks : List Str} {Q' : Value → Shared → Prop} {QQ : List V → List V → Hp → Prop} (hk : PySem.W.keepIn X.K fv = true) (ha : PA X es t) (hkw : PK X kws tk) (h1 : noStar es = true) (h2 : kwNames kws = some ks) (hn : es = [] → ∀ σ H K, t σ H K → K [] H)
    (I : Inv X pins σ H s) (h : t σ H fun vs H1 => tk σ H1 fun zs H2 => QQ vs zs H2)
    (q : ∀ us ws s2 vs zs H2, Inv X pins σ H2 s2 → Vals vs us → Vals zs ws → QQ vs zs H2 → wpAny (model X.prog X.w) X.A (call fv (first ++ us) (ks.zip ws)) Q' X.xe s2) :
    wpAny (model X.prog X.w) X.A (callWith pos fv first (backTo pos (starEach es X.env)) (backToKw pos (keywordEach kws X.env))) Q' X.xe s := by
  obtain ⟨ka, kb, kc⟩ := kw_facts (pos := pos) (env := X.env) h2
  have hpl : ((backTo pos (starEach es X.env)).any (·.1) || (backToKw pos (keywordEach kws X.env)).any (·.1.isNone)) = false := by rw [star_any h1, kb]; rfl
  cases es with
  | nil =>
    refine PySem.W.callWith_KW0 (h₀ := X.base) I.ok.mod.kin hk ka ?_ hpl
    rw [kc]
    refine thn (hkw.run pos pins s σ H _ I (hn rfl _ _ _ h)) fun ws s2 ⟨zs, H2, I2, rz, q2⟩ => ⟨I2.kIn, ?_⟩
    exact q [] ws s2 [] zs H2 I2 .nil rz q2
  | cons e es =>
    have hs : isStar e = false := by
      simp only [noStar, List.all_cons, Bool.and_eq_true, Bool.not_eq_true'] at h1; exact h1.1
    refine PySem.W.callWith_KW (h₀ := X.base) I.ok.mod.kin hk ka (thn (ha.run pos pins s σ H _ I h) fun us s1 ⟨vs, H1, I1, r, q1⟩ => ?_) hpl (star_cons hs)
    rw [kc]
    refine thn (hkw.run pos pins s1 σ H1 _ I1 q1) fun ws s2 ⟨zs, H2, I2, rz, q2⟩ => ⟨I2.kIn, ?_⟩
    exact q us ws s2 vs zs H2 I2 r rz q2
theorem nil_ok {σ : L2.St} {H : Hp} {K : List V → Hp → Prop} (h : tBs T W nilL σ H K) : K [] H := by
  obtain ⟨H0, O, ρ, r, p⟩ := h
  exact p [] H (Ex.refl H) .nil
theorem post_F {r : R D} {Q : VK} (h : Post T W A σ H r Q) : PostF T A H r Q (WE W σ) := by
  induction r with
  | ok d => exact h
  | err c fs => exact h
  | stuck => exact h
  | any k ih => exact fun i => ih i (h i)
/-- f(e, .., k = v, ..) -/
theorem be_fn {kf n : Nat} {fa : Addr} {fd : FuncData} {ps ks : List Str} {src : List Src} {M : List D → R D} (C : Cok T N sc W k fb X) (F : FnOk X.prog X.w X.K X.mg X.base (L2.CX X.prog X.w) kf fa fd ps (spB T src.length M)) (hr : Room kf X.A)
    (hg : Gl X x) (hm : X.mg x = some (.ref fa)) (hk : PySem.W.keepIn X.K (.ref fa) = true) (S : ShapeOk T fd ps n ks src) (ha : PA X es (tBs T W fl)) (hkw : PK X kws (tBs T W fk)) (h1 : noStar es = true) (h2 : kwNames kws = some ks) (hn : es = [] → fl = nilL)
    (hdb : (x == ("__debug__" : Str)) = false) : PE X (.Call (.Name x p) es kws pos) (tB T W (callF n ks.length src M fl fk)) := by
  obtain ⟨gv, gV, kb, sd⟩ := S
  refine ⟨fun pins s σ H Q I h => ?_⟩
  obtain ⟨H0, O, ρ, r, p⟩ := h
  have q : tBs T W fl σ H fun vs H1 => tBs T W fk σ H1 fun zs H2 => vs.length = n ∧ zs.length = ks.length ∧ spB T src.length M (gV vs zs) H2 Q (WE W σ) := by
    refine tBs.bind r p fun ds vs H1 _ e1 r1 d1 p1 => tBs.bind r1 p1 fun es zs H2 _ e2 r2 d2 p2 => ?_
    split at p2
    · rename_i hl
      exact ⟨by rw [d1.length]; exact hl.1, by rw [d2.length]; exact hl.2, Av O σ ρ, bindS src ds es, r2.avdom, sd _ _ _ _ _ _ (d1.ex e2) d2 hl.1 hl.2, by simp [bindS], post_F p2⟩
    · exact p2.elim
  refine wpAny_Call_Name_kw (ld_glob I hg hm ?_ hdb)
  refine callWith_any (first := []) hk ha hkw h1 h2 (fun e σ H K z => by rw [hn e] at z; exact nil_ok z) I q fun us ws s2 vs zs H2 I2 rv rz ⟨l1, l2, q2⟩ => ?_
  exact run_fnD F hr (by rw [C.hK]; exact kb) (passAt C.tk σ) I2 rv rz l1 l2 q2
end
theorem force_PostF : True := by
  have h1 := @PostF.eq_def
  have h2 := @PostF.eq_1
  trivial
theorem force_PostI : True := by
  have h1 := @PostI.eq_def
  have h2 := @PostI.eq_1
  trivial
end BV
set_option Elab.async false
set_option linter.all false
set_option maxRecDepth 100000
namespace BV
open PySem L2
open Evl (Ex)

section
variable {T : Tb} {N : List Str} {sc : Scope} {W : WX} {k : Nat} {fb : Bool} {X : Cx} {O A : AP} {H0 H H' : Hp} {σ : L2.St} {ρ : Rho} {Q : VK}
variable {a b c e o : Expr} {f g h : Rho → R D} {fl fk : Rho → R (List D)} {p pos apos : Pos} {es : List Expr} {kws : List Keyword} {x m : Str}

/-! ### attributes -/
/-- a def's address, its data, its parameters -/
structure Fn where
  addr : Addr
  fd : FuncData
  ps : List Str
def noErrR (r : R D) : R D := match r with
  | .any _ => .stuck
  | .err _ _ => .stuck
  | r => r
def evAttr (T : Tb) (M : Nat → List D → R D) (fname : Str) (alts : List (Nat × Option Nat)) : D → R D
  | .ins c fs => match alts.lookup c with
    | some none => (match ((T.flds c).zip fs).lookup fname with | some d => .ok d | none => .stuck)
    | some (some g) => noErrR (M g [.ins c fs])
    | none => .stuck
  | _ => .stuck
/-- what the alternatives of an attribute say -/
def AltOk (T : Tb) (Φ : Nat → Fn) (fname : Str) (alt : Nat × Option Nat) : Prop := Cls T.K (T.cls alt.1) ∧ (match alt.2 with
  | none => NoAttr T.K (T.cls alt.1) fname
  | some g => ∃ p, PropOf T.K (T.cls alt.1) fname p (Φ g).addr ∧ Binds T.K (Φ g).fd (Φ g).ps [])
theorem zip_lookup {names : List Str} {fname : Str} : ∀ {fs : List D} {vs : List V} {d : D}, Dens T A H fs vs → (names.zip fs).lookup fname = some d → ∃ v, (names.zip vs).lookup fname = some v ∧ Den T A H d v := by
  induction names with
  | nil => intro fs vs d _ h; simp at h
  | cons n ns ih =>
    intro fs vs d hd h
    cases fs with
    | nil => simp at h
    | cons f fs =>
      simp only [Dens] at hd
      obtain ⟨v, r, rfl, h1, h2⟩ := hd
      simp only [List.zip_cons_cons, List.lookup_cons] at h ⊢
      split at h
      · simp at h; subst h; exact ⟨v, rfl, h1⟩
      · exact ih h2 h
theorem lookup_mem {α : Type} [BEq α] [LawfulBEq α] {β : Type} : ∀ {l : List (α × β)} {a : α} {b : β}, l.lookup a = some b → (a, b) ∈ l
  | [], _, _, h => by simp at h
  | (x, y) :: l, a, b, h => by
    simp only [List.lookup_cons] at h
    split at h
    · rename_i e
      simp only [beq_iff_eq] at e
      simp at h; subst e h; exact List.mem_cons_self ..
    · exact List.mem_cons_of_mem _ (lookup_mem h)
theorem Den.ins {c : Nat} {fs : List D} {v : V} (h : Den T A H (.ins c fs) v) : ∃ a dx vs, v = .ref a ∧ H a = some (.ins (T.cls c) dx ((T.flds c).zip vs)) ∧ vs.length = (T.flds c).length ∧ Dens T A H fs vs := by
  simp only [Den] at h
  obtain ⟨a, dx, vs, h1, h2, h5, _, h3⟩ := h; exact ⟨a, dx, vs, h1, h2, h5, h3⟩
theorem be_attr {kf : Nat} {Φ : Nat → Fn} {M : Nat → List D → R D} {alts : List (Nat × Option Nat)} {fname : Str} (C : Cok T N sc W k fb X)
    (hfn : ∀ c g, (c, some g) ∈ alts → FnOk X.prog X.w X.K X.mg X.base (L2.CX X.prog X.w) kf (Φ g).addr (Φ g).fd (Φ g).ps (spB T 1 (M g))) (hr : Room (kf + 1) X.A)
    (hal : ∀ alt ∈ alts, AltOk T Φ fname alt) (he : PE X e (tB T W f)) (hb : attributeBase e fname X.env (eval e X.env) = eval e X.env) : PE X (.Attribute e fname pos) (tB T W fun ρ => (f ρ).bind (evAttr T M fname alts)) := by
  refine ⟨fun pins s σ H Q I h => ?_⟩
  obtain ⟨H0, O, ρ, r, p⟩ := h
  refine attr_of hb (thn (he.run pins s σ H (fun v H1 => ∃ d, Den T (Av O σ ρ) H1 d v ∧ Rel T H0 O σ H1 ρ ∧ Post T W (Av O σ ρ) σ H1 (evAttr T M fname alts d) Q) I (tB.bind r p fun d v H1 _ e1 r1 d1 p1 => ⟨d, d1, r1, p1⟩)) fun u s1 ⟨v, H1, I1, rx, d, d1, r1, p1⟩ => ?_)
  unfold evAttr at p1
  split at p1
  · rename_i c fs
    obtain ⟨a, dx, vs, rfl, ha, hl, hv⟩ := d1.ins
    obtain rfl : u = Value.ref a := rx
    split at p1
    · rename_i el
      obtain ⟨cl, na⟩ := hal _ (lookup_mem el)
      split at p1
      · rename_i d ed
        obtain ⟨v, ev, dv⟩ := zip_lookup hv ed
        exact getattr_ok I1 ha (by rw [C.hK]; exact cl) (by rw [C.hK]; exact na) ev fun u' s2 I2 ru => ⟨v, H1, I2, ru, p1 v H1 (Ex.refl H1) dv⟩
      · exact p1.elim
    · rename_i g el
      obtain ⟨cl, p', hp, hbi⟩ := hal _ (lookup_mem el)
      refine getprop_ok (dvs := []) (ds := []) (E := E0) I1 ha (by rw [C.hK]; exact cl) (by rw [C.hK]; exact hp) (hfn c g (lookup_mem el)) hr (by rw [C.hK]; exact hbi) .nil (passL (X := X.nox)) ?_
      refine ⟨Av O σ ρ, [.ins c fs], r1.avdom, .cons d1 .nil, rfl, ?_⟩
      cases em : M g [.ins c fs] with
      | ok d => rw [em] at p1; exact p1
      | err c fs => rw [em] at p1; exact p1.elim
      | stuck => rw [em] at p1; exact p1.elim
      | any k0 => rw [em] at p1; exact p1.elim
    · exact p1.elim
  · exact p1.elim

/-! ### methods -/
/-- a shape of a call: the def, how many positional arguments, the keywords, where the parameters come from -/
structure Shp where
  f : Nat
  n : Nat
  ks : List Str
  src : List Src
def ShOk (T : Tb) (Φ : Nat → Fn) (s : Shp) : Prop := ShapeOk T (Φ s.f).fd (Φ s.f).ps s.n s.ks s.src
def recv (alts : List (Nat × Shp)) : D → Option Shp
  | .ins c _ => alts.lookup c
  | _ => none
def methF (M : Nat → List D → R D) (alts : List (Nat × Shp)) (f : Rho → R D) (fl fk : Rho → R (List D)) : Rho → R D := fun ρ => (f ρ).bind fun d => match recv alts d with
  | some s => (fl ρ).bind fun ds => (fk ρ).bind fun es => if (d :: ds).length = s.n ∧ es.length = s.ks.length then M s.f (bindS s.src (d :: ds) es) else .stuck
  | none => .stuck
def MAltOk (T : Tb) (Φ : Nat → Fn) (m : Str) (ks : List Str) (alt : Nat × Shp) : Prop := Cls T.K (T.cls alt.1) ∧ Meth T.K (T.cls alt.1) m (Φ alt.2.f).addr ∧ (∀ vs : List V, ((T.flds alt.1).zip vs).lookup m = none) ∧ ShOk T Φ alt.2 ∧ alt.2.ks = ks
theorem be_meth {kf : Nat} {Φ : Nat → Fn} {M : Nat → List D → R D} {alts : List (Nat × Shp)} {ks : List Str} (C : Cok T N sc W k fb X)
    (hfn : ∀ c s, (c, s) ∈ alts → FnOk X.prog X.w X.K X.mg X.base (L2.CX X.prog X.w) kf (Φ s.f).addr (Φ s.f).fd (Φ s.f).ps (spB T s.src.length (M s.f))) (hr : Room kf X.A)
    (hal : ∀ alt ∈ alts, MAltOk T Φ m ks alt) (he : PE X o (tB T W f)) (ha : PA X es (tBs T W fl)) (hkw : PK X kws (tBs T W fk)) (h1 : noStar es = true) (h2 : kwNames kws = some ks) (h3 : es.length + kws.length + 1 < 30) (hn : es = [] → fl = nilL)
    (hb : attributeBase o m X.env (eval o X.env) = eval o X.env) (hl : (apos.endLine == pos.line) = true) :
    PE X (.Call (.Attribute o m apos) es kws pos) (tB T W (methF M alts f fl fk)) := by
  refine ⟨fun pins s σ H Q I h => ?_⟩
  obtain ⟨H0, O, ρ, r, p⟩ := h
  refine PySem.W.methodCall_KW (pl := (do return (← importBound o X.env).getD true)) (thn (he.run pins s σ H (fun v H1 => ∃ d, Den T (Av O σ ρ) H1 d v ∧ Rel T H0 O σ H1 ρ ∧ Post T W (Av O σ ρ) σ H1 (match recv alts d with
    | some s => (fl ρ).bind fun ds => (fk ρ).bind fun es => if (d :: ds).length = s.n ∧ es.length = s.ks.length then M s.f (bindS s.src (d :: ds) es) else .stuck
    | none => .stuck) Q) I
    (tB.bind r p fun d v H1 _ e1 r1 d1 p1 => ⟨d, d1, r1, p1⟩)) fun u s1 ⟨v, H1, I1, rx, d, d1, r1, p1⟩ => ?_) (eval_meth hb h1 h2 h3 hl)
  split at p1
  · rename_i sh er
    cases d with
    | ins c fs =>
      have el : alts.lookup c = some sh := er
      obtain ⟨cl, hme, hno, ⟨gv, gV, kb, sd⟩, hks⟩ := hal _ (lookup_mem el)
      obtain ⟨a, dx, vs, rfl, hH, hlen, hv⟩ := d1.ins
      obtain rfl : u = Value.ref a := rx
      refine getmeth_ok I1 hH (by rw [C.hK]; exact cl) (by rw [C.hK]; exact hme) (hno vs) ?_
      have q : tBs T W fl σ H1 fun vs H2 => tBs T W fk σ H2 fun zs H3 => (V.ref a :: vs).length = sh.n ∧ zs.length = sh.ks.length ∧ spB T sh.src.length (M sh.f) (gV (V.ref a :: vs) zs) H3 Q (WE W σ) := by
        refine tBs.bind r1 p1 fun ds vs H2 _ e2 r2 d2 p2 => tBs.bind r2 p2 fun es zs H3 _ e3 r3 d3 p3 => ?_
        split at p3
        · rename_i hl
          have dd : Dens T (Av O σ ρ) H3 (.ins c fs :: ds) (V.ref a :: vs) := .cons ((d1.ex e2).ex e3) (d2.ex e3)
          exact ⟨by rw [dd.length]; exact hl.1, by rw [d3.length]; exact hl.2, Av O σ ρ, bindS sh.src (.ins c fs :: ds) es, r3.avdom, sd _ _ _ _ _ _ dd d3 hl.1 hl.2, by simp [bindS], post_F p3⟩
        · exact p3.elim
      refine callWith_any (first := [.ref a]) (by rw [C.hK]; exact hme.kp) ha hkw h1 h2 (fun e σ H K z => by rw [hn e] at z; exact nil_ok z) I1 q fun us ws s2 vs zs H2 I2 rv rz ⟨l1, l2, q2⟩ => ?_
      rw [← hks]
      have rv' : Vals (V.ref a :: vs) (Value.ref a :: us) := .cons (show RelV (V.ref a) (Value.ref a) from rfl) rv
      exact run_fnD (us := .ref a :: us) (hfn c sh (lookup_mem el)) hr (by rw [C.hK]; exact kb) (passAt C.tk σ) I2 rv' rz l1 l2 q2
    | _ => exact nomatch er
  · exact p1.elim
/-! ### a new instance -/
def mkF (T : Tb) (c : Nat) (s : Shp) (MI : Nat → List D → R (List D)) (fl fk : Rho → R (List D)) : Rho → R D := fun ρ => (fl ρ).bind fun ds => (fk ρ).bind fun es => if ds.length + 1 = s.n ∧ es.length = s.ks.length then (MI s.f (bindS s.src (.non :: ds) es).tail).bind fun fs => .ok (.ins c fs) else .stuck
/-- how __init__'s parameters come: self first -/
def IShapeOk (T : Tb) (fd : FuncData) (ps : List Str) (n : Nat) (ks : List Str) (src : List Src) : Prop := ∃ g gV, KBn T.K fd ps n ks g gV ∧
  ∀ (O : AP) (H : Hp) (x : Addr) (ds : List D) (vs : List V) (es : List D) (zs : List V), Dens T O H ds vs → Dens T O H es zs → ds.length + 1 = n → es.length = ks.length →
    ∃ ws, gV (.ref x :: vs) zs = .ref x :: ws ∧ Dens T O H (bindS src (.non :: ds) es).tail ws
theorem run_mkD {CX : CXT} {kf n : Nat} {fa Ca : Addr} {fd : FuncData} {ps ks : List Str} {sp : Sp} {E : XK} {gv : List Value → List Value → List Value} {gV : List V → List V → List V} {pins : List (Addr × Obj)} {s : Shared} {us ws : List Value} {vs zs : List V}
    (M : Mk X.K Ca fa) (F : FnOk X.prog X.w X.K X.mg X.base CX kf fa fd ps sp) (hr : Room (kf + 1) X.A) (hb : KBn X.K fd ps (n + 1) ks gv gV) (hx : PassesAt CX X σ E)
    (I : Inv X pins σ H s) (r : Vals vs us) (rz : Vals zs ws) (l1 : vs.length = n) (l2 : zs.length = ks.length)
    (h : ∀ x dx, H x = none → H dx = none → dx ≠ x → sp (gV (.ref x :: vs) zs) (upd (upd H dx (.own x)) x (.ins Ca dx [])) (fun v H2 => v = .non ∧ Q (.ref x) H2) E) :
    wpAny (model X.prog X.w) X.A (call (.ref Ca) us (ks.zip ws)) (EP X pins σ Q) X.xe s := by
  have hq := h (s.heap.objs.size + 1) s.heap.objs.size (I.hok.fresh (Nat.le_succ _)) (I.hok.fresh (Nat.le_refl _)) (Nat.ne_of_lt (Nat.lt_succ_self _))
  have I2 := Inv.made (C := Ca) I
  have r1 : Vals (V.ref (s.heap.objs.size + 1) :: vs) (Value.ref (s.heap.objs.size + 1) :: us) := .cons rfl r
  have r2 := hb.rel r1 rz
  have n1 : (Value.ref (s.heap.objs.size + 1) :: us).length = n + 1 := by
    rw [List.length_cons, ← r.length, l1]
  refine wpAny_call (make_map (f := fa) I.kIn M.makes M.init (beq_iff_eq.mp M.fn) (codeAny_mono (F.run _ X.stack _ _ ⟨Value.ref (s.heap.objs.size + 1) :: us, ks.zip ws⟩ (gv (Value.ref (s.heap.objs.size + 1) :: us) ws) _ _ E (hr.make Ca us (ks.zip ws))
    (I2.env0.make Ca us (ks.zip ws)) (hb.to _ (Value.ref (s.heap.objs.size + 1) :: us) ws I2.kIn n1 (rz.length.symm.trans l2)) r2 hq) fun r s' hq' => ?_))
  cases r with
  | error e => exact hx pins _ _ e s' I2 hq'
  | ok fl =>
    cases fl with
    | ret u =>
      obtain ⟨v, H', I3, rv, ev, q3⟩ := I2.after hq'
      subst ev
      exact ⟨rv, ⟨V.ref (s.heap.objs.size + 1), H', I3, rfl, q3⟩⟩
    | next => exact False.elim hq'
    | brk => exact False.elim hq'
    | cont => exact False.elim hq'
theorem be_mk {kf cn n : Nat} {Φ : Nat → Fn} {sh : Shp} {MI : Nat → List D → R (List D)} (C : Cok T N sc W k fb X) (F : FnOk X.prog X.w X.K X.mg X.base (L2.CX X.prog X.w) kf (Φ sh.f).addr (Φ sh.f).fd (Φ sh.f).ps (spI T cn (sh.src.length - 1) (MI sh.f))) (hr : Room (kf + 1) X.A)
    (Mk' : Mk T.K (T.cls cn) (Φ sh.f).addr) (hg : Gl X x) (hm : X.mg x = some (.ref (T.cls cn))) (hnn : sh.n = n + 1) (S : IShapeOk T (Φ sh.f).fd (Φ sh.f).ps sh.n sh.ks sh.src) (ha : PA X es (tBs T W fl)) (hkw : PK X kws (tBs T W fk))
    (h1 : noStar es = true) (h2 : kwNames kws = some sh.ks) (hn : es = [] → fl = nilL) (hdb : (x == ("__debug__" : Str)) = false) : PE X (.Call (.Name x p) es kws pos) (tB T W (mkF T cn sh MI fl fk)) := by
  obtain ⟨gv, gV, kb, sd⟩ := S
  refine ⟨fun pins s σ H Q I h => ?_⟩
  obtain ⟨H0, O, ρ, r, p⟩ := h
  have q : tBs T W fl σ H fun vs H1 => tBs T W fk σ H1 fun zs H2 => vs.length = n ∧ zs.length = sh.ks.length ∧ ∀ x dx, H2 x = none → H2 dx = none → dx ≠ x →
      spI T cn (sh.src.length - 1) (MI sh.f) (gV (.ref x :: vs) zs) (upd (upd H2 dx (.own x)) x (.ins (T.cls cn) dx [])) (fun v H3 => v = .non ∧ Q (.ref x) H3) (WE W σ) := by
    refine tBs.bind r p fun ds vs H1 _ e1 r1 d1 p1 => tBs.bind r1 p1 fun es zs H2 _ e2 r2 d2 p2 => ?_
    split at p2
    · rename_i hl
      refine ⟨by rw [d1.length]; omega, by rw [d2.length]; exact hl.2, fun x dx nx ndx ne => ?_⟩
      obtain ⟨ws, ew, dw⟩ := sd (Av O σ ρ) H2 x ds vs es zs (d1.ex e2) d2 hl.1 hl.2
      refine ⟨Av O σ ρ, _, H2, x, dx, ws, ew, rfl, nx, ndx, ne, r2.avdom, dw, by simp [bindS], ?_⟩
      generalize MI sh.f (bindS sh.src (.non :: ds) es).tail = r0 at p2 ⊢
      induction r0 with
      | any k0 ih => exact fun i => ih i (p2 i)
      | ok fs =>
        refine fun H' ex ⟨dx, us, h1, h2, h3⟩ => ⟨rfl, p2 _ H' ex ?_⟩
        simp only [Den]
        exact ⟨x, dx, us, rfl, h1, h2, fun z => r2.avdom x z nx, h3⟩
      | err c fs => exact p2
      | stuck => exact p2
    · exact p2.elim
  refine wpAny_Call_Name_kw (ld_glob I hg hm ?_ hdb)
  refine callWith_any (first := []) (by rw [C.hK]; exact Mk'.kp) ha hkw h1 h2 (fun e σ H K z => by rw [hn e] at z; exact nil_ok z) I q fun us ws s2 vs zs H2 I2 rv rz ⟨l1, l2, q2⟩ => ?_
  exact run_mkD (by rw [C.hK]; exact Mk') F hr (by rw [C.hK, ← hnn]; exact kb) (passAt C.tk σ) I2 rv rz l1 l2 q2
end
end BV
set_option Elab.async false
set_option linter.all false
set_option maxRecDepth 100000
namespace BV
open PySem L2
open Evl (Ex)

/-! ### isinstance -/
/-- a class: a built-in one by its name, an own one by its number -/
inductive Ty where
  | b (n : String) | c (i : Nat)
def tyN : D → String
  | .non => "NoneType" | .bl _ => "bool" | .int _ => "int" | .str _ => "str" | .tup _ => "tuple" | .lst _ => "list" | .scr _ => "list" | .dct _ _ => "dict" | .ins _ _ => "object" | .fn _ => "function" | .drw _ => "list"
def tyVal (T : Tb) : D → Value
  | .ins c _ => .ref (T.cls c)
  | d => .type (tyN d)
def Ty.val (T : Tb) : Ty → Value
  | .b n => .type n
  | .c i => .ref (T.cls i)
def Ty.v (T : Tb) : Ty → V
  | .b n => .ty n
  | .c i => .ref (T.cls i)
def isi1 (sub : Nat → Nat → Bool) : D → Ty → Bool
  | .ins c _, .b _ => false
  | .ins c _, .c i => sub c i
  | d, .b n => tyN d == n || (tyN d == "bool" && n == "int")
  | _, .c _ => false
def tyNames : List String := ["NoneType", "bool", "int", "str", "tuple", "list", "dict"]
def tyAsked : List String := ["int", "str", "bool", "tuple", "list", "dict"]
/-- the facts of an own class for isinstance -/
structure InsOk (T : Tb) (c : Nat) : Prop where
  cl : Cls T.K (T.cls c)
  ha : PySem.W.findIn T.K (.ref (T.cls c)) "__class__" = some (some (.builtin "object.__class__"))
  hn : PySem.W.specialIn T.K (.builtin "object.__class__") "__get__" = some (some (.builtin "getset_descriptor.__get__"))
  htk : PySem.W.takesIn T.K (.builtin "object.__class__") = some true
  hm : PySem.W.mroIn T.K (T.cls c) (.type "object") = some true
  kb : ∀ n ∈ tyAsked, PySem.W.kitOne T.K (.ref (T.cls c)) (.type n) = some false
structure TyOk (T : Tb) (sub : Nat → Nat → Bool) (cs : List Nat) (t : Ty) : Prop where
  b : ∀ n, t = .b n → n ∈ tyAsked
  c : ∀ i, t = .c i → (∀ n ∈ tyNames, PySem.W.kitOne T.K (.type n) (.ref (T.cls i)) = some false) ∧ ∀ c ∈ cs, PySem.W.kitOne T.K (.ref (T.cls c)) (.ref (T.cls i)) = some (sub c i)
/-- all classes of the instances in a value's top are of the list -/
def topIn (cs : List Nat) : D → Bool
  | .ins c _ => cs.contains c
  | .fn _ => false
  | .dct _ _ => false
  | .drw _ => false
  | _ => true
theorem kitB_tab : ∀ a ∈ tyNames, ∀ n ∈ tyAsked, kitB a n = some (a == n || (a == "bool" && n == "int")) := by decide +kernel
section
variable {T : Tb} {N : List Str} {sc : Scope} {W : WX} {k : Nat} {fb : Bool} {X : Cx} {O A : AP} {H0 H H' : Hp} {σ : L2.St} {ρ : Rho} {Q : VK} {sub : Nat → Nat → Bool} {cs : List Nat}
variable {a b c e o : Expr} {f g h : Rho → R D} {fl fk : Rho → R (List D)} {p pos apos : Pos} {es : List Expr} {kws : List Keyword} {x m : Str}
theorem SDen.ty {d : D} {v : V} (hi : ∀ c ∈ cs, InsOk T c) (ht : topIn cs d = true) (h : SDen T O A H d v) : TyX T.K H v (tyVal T d) := by
  cases d with
  | non => rw [h.non]; exact .base .non
  | bl b => rw [h.bl]; exact .base (.bl b)
  | int b => rw [h.int]; exact .base (.int b)
  | str b => rw [h.str]; exact .base (.str b)
  | tup b =>
    obtain ⟨a, vs, rfl, h1, _⟩ := h.tup
    rcases h1 with (h1 | ⟨o, h1⟩) | ⟨o, its, n, h1, h2, _⟩
    · exact .base (.tup h1)
    · exact .fTuple h1
    · exact .kTuple h1 h2
  | lst b => obtain ⟨a, vs, rfl, h1, _⟩ := h.lst; exact .base (.lst h1)
  | scr b =>
    obtain ⟨a, rfl, h1⟩ := h.scr
    rcases h1 with ⟨o, h1⟩ | ⟨o, its, n, h1, h2, _⟩
    · exact .base (.frz h1)
    · exact .kList h1 h2
  | ins c fs =>
    obtain ⟨a, dx, vs, rfl, h1, _⟩ := h.ins
    have k := hi c (by simpa [topIn] using ht)
    exact .base (.ins h1 k.cl k.ha k.hn k.htk k.hm)
  | dct a b => simp [topIn] at ht
  | fn i => simp [topIn] at ht
  | drw i => simp [topIn] at ht
theorem kit_D {d : D} {t : Ty} (hi : ∀ c ∈ cs, InsOk T c) (ht : topIn cs d = true) (tk : TyOk T sub cs t) : PySem.W.kitOne T.K (tyVal T d) (t.val T) = some (isi1 sub d t) := by
  cases t with
  | b n =>
    have hn := tk.b n rfl
    cases d with
    | ins c fs => exact (hi c (by simpa [topIn] using ht)).kb n hn
    | fn i => simp [topIn] at ht
    | _ => exact kit_ty (kitB_tab _ (by simp [tyNames, tyN]) n hn)
  | c i =>
    obtain ⟨h1, h2⟩ := tk.c i rfl
    cases d with
    | ins c fs => exact h2 c (by simpa [topIn] using ht)
    | fn i => simp [topIn] at ht
    | _ => exact h1 _ (by simp [tyNames, tyN])
theorem Ty.cls (t : Ty) : ClsV (t.v T) (t.val T) := by
  cases t with
  | b n => exact .ty n
  | c i => exact .own _
def isiF (sub : Nat → Nat → Bool) (cs : List Nat) (ts : List Ty) : D → R D := fun d => if topIn cs d then .ok (.bl (ts.any (isi1 sub d))) else .stuck
/-- the expression that names a class -/
def PTy (X : Cx) (T : Tb) (e : Expr) (t : Ty) : Prop := PE X e (tC (t.v T))
theorem be_isi {t : Ty} {tn : Expr} (C : Cok T N sc W k fb X) (hi : ∀ c ∈ cs, InsOk T c) (tk : TyOk T sub cs t) (ht : PTy X T tn t) (he : PE X e (tP T W f)) (hg : Gl X "isinstance") (hm : X.mg "isinstance" = none) (h1 : isStar e = false) (h2 : isStar tn = false) :
    PE X (.Call (.Name "isinstance" p) [e, tn] [] pos) (tB T W fun ρ => (f ρ).bind (isiF sub cs [t])) := by
  refine pe_imp (pe_callB call_isi hg hm (by decide +kernel) (pa_cons he (pa_cons ht pa_nil (star_cons h2)) (star_cons h1)) (by decide) (by decide) (star_cons h1) (star_any (by simp [noStar, h2]))) fun σ H Q ⟨H0, O, ρ, r, p⟩ => ?_
  refine tP.bind r p fun d v H1 _ e1 r1 d1 p1 => ?_
  unfold isiF at p1
  split at p1
  · rename_i htop
    refine ⟨v, t.v T, tyVal T d, t.val T, isi1 sub d t, rfl, t.cls, by rw [C.hK]; exact d1.ty hi htop, by rw [C.hK]; exact kit_D hi htop tk, ?_⟩
    have := okP.bl (T := T) p1
    simpa using this
  · exact p1.elim
theorem pa_tys (C : Cok T N sc W k fb X) : ∀ {tns : List Expr} {ts : List Ty}, tns.length = ts.length → (∀ (i : Nat) tn t, tns[i]? = some tn → ts[i]? = some t → PTy X T tn t ∧ isStar tn = false) → PA X tns (fun _ H Q => Q (ts.map (Ty.v T)) H)
  | [], [], _, _ => pa_nil
  | tn :: tns, t :: ts, hl, h => by
    obtain ⟨h1, h2⟩ := h 0 tn t rfl rfl
    exact pa_imp (pa_cons h1 (pa_tys C (by simpa using hl) fun i a b e1 e2 => h (i + 1) a b (by simpa using e1) (by simpa using e2)) (star_cons h2)) fun σ H Q q => q
theorem tys_pair : ∀ (ts : List Ty), Paired ClsV (ts.map (Ty.v T)) (ts.map (Ty.val T))
  | [] => .nil
  | t :: ts => .cons t.cls (tys_pair ts)
theorem kitAny_D {d : D} (hi : ∀ c ∈ cs, InsOk T c) (ht : topIn cs d = true) : ∀ {ts : List Ty}, (∀ t ∈ ts, TyOk T sub cs t) → PySem.W.kitAny T.K (tyVal T d) (ts.map (Ty.val T)) = some (ts.any (isi1 sub d))
  | [], _ => rfl
  | t :: ts, h => by
    refine kitAny_cons (kit_D hi ht (h t (List.mem_cons_self ..))) (fun e => ?_) fun e => ?_
    · rw [kitAny_D hi ht fun t ht => h t (List.mem_cons_of_mem _ ht)]
      simp [e]
    · simp [e]
theorem be_isiT {ts : List Ty} {tns : List Expr} {x1} {tpos : Pos} (C : Cok T N sc W k fb X) (hi : ∀ c ∈ cs, InsOk T c) (tk : ∀ t ∈ ts, TyOk T sub cs t) (hl : tns.length = ts.length) (hz : ts.length ≤ 100)
    (hts : ∀ (i : Nat) tn t, tns[i]? = some tn → ts[i]? = some t → PTy X T tn t ∧ isStar tn = false) (he : PE X e (tP T W f)) (hg : Gl X "isinstance") (hm : X.mg "isinstance" = none) (h1 : isStar e = false) :
    PE X (.Call (.Name "isinstance" p) [e, .Tuple tns x1 tpos] [] pos) (tB T W fun ρ => (f ρ).bind (isiF sub cs ts)) := by
  refine pe_imp (pe_callB call_isiT hg hm (by decide +kernel) (pa_cons he (pa_cons (pe_tup (pa_tys C hl hts)) pa_nil rfl) (star_cons h1)) (by decide) (by decide) (star_cons h1) rfl) fun σ H Q ⟨H0, O, ρ, r, p⟩ => ?_
  refine tP.bind r p fun d v H1 _ e1 r1 d1 p1 => ?_
  unfold isiF at p1
  split at p1
  · rename_i htop
    refine ⟨by rw [List.length_map]; exact Nat.le_trans hz (by decide), fun q hq => ?_⟩
    have ex := Ex.new (o := .tup (ts.map (Ty.v T))) hq
    exact ⟨v, q, _, tyVal T d, _, _, rfl, upd_same, tys_pair ts, by rw [C.hK]; exact (d1.ex ex).ty hi htop, by rw [C.hK]; exact kitAny_D hi htop tk, okP.bl (T := T) (Post.mono p1 ex)⟩
  · exact p1.elim

/-! ### slices -/
def cutA {α : Type} (xs : List α) (lo hi : Option Int) : List α := (xs.drop (HT.sIx xs.length 0 lo)).take (HT.sIx xs.length xs.length hi - HT.sIx xs.length 0 lo)
theorem Dens.cut {ds : List D} {vs : List V} (h : Dens T A H ds vs) (lo hi : Option Int) : Dens T A H (cutA ds lo hi) (cutV vs lo hi) := by
  unfold cutA cutV
  rw [h.length]
  exact (h.drop _).take _
def opSl : D → Option Int → Option Int → R D
  | .lst ds, lo, hi => .ok (.lst (cutA ds lo hi))
  | .tup ds, lo, hi => .ok (.tup (cutA ds lo hi))
  | .scr ns, lo, hi => .ok (.lst ((cutA ns lo hi).map D.int))
  | _, _, _ => .stuck
def rSlD (T : Tb) : V → Option Int → Option Int → Hp → VK → Prop := fun v lo hi H Q => ∃ O A d, (∀ a, A a → H a ≠ none) ∧ SDen T O A H d v ∧ okP T A H (opSl d lo hi) Q
theorem SlR.imp {r r' : V → Option Int → Option Int → Hp → VK → Prop} (h : SlR X r) (i : ∀ x lo hi H Q, r' x lo hi H Q → r x lo hi H Q) : SlR X r' :=
  fun pins s σ H x v vl vu lo hi sl Q I a b c d q => h pins s σ H x v vl vu lo hi sl Q I a b c d (i _ _ _ _ _ q)
theorem cutA_map (ns : List Int) (lo hi : Option Int) : cutV (ns.map V.int) lo hi = (cutA ns lo hi).map V.int := by
  unfold cutV cutA
  simp only [List.length_map, List.map_take, List.map_drop]
theorem cut_whole {α : Type} {xs : List α} {lo hi : Option Int} (h : HT.sIx xs.length 0 lo = 0 ∧ HT.sIx xs.length xs.length hi = xs.length) : cutA xs lo hi = xs := by
  unfold cutA
  rw [h.1, h.2]; simp
theorem sl_D (hK : X.K = T.K) : SlR X (rSlD T) := by
  refine SlR.imp (sl_list.or sl_tupA) fun v lo hi H Q h => ?_
  obtain ⟨O, A, d, dom, hd, q⟩ := h
  cases d with
  | lst ds =>
    obtain ⟨a, vs, rfl, h1, h2⟩ := hd.lst
    exact .inl ⟨a, vs, rfl, .inl (.inl h1), q.lst dom (h2.cut lo hi)⟩
  | scr ns =>
    obtain ⟨a, rfl, h1⟩ := hd.scr
    refine .inl ⟨a, _, rfl, by rw [hK]; exact h1.sq, ?_⟩
    rw [cutA_map]
    exact q.lst dom (Dens.int _)
  | tup ds =>
    obtain ⟨a, vs, rfl, h1, h2⟩ := hd.tup
    have hl := h2.length
    refine .inr ⟨a, vs, rfl, by rw [hK]; exact h1, fun e => ?_, fun _ => q.tup (h2.cut lo hi)⟩
    rw [hl] at e
    refine q.same ?_
    rw [cut_whole e]
    simp only [Den]
    exact ⟨a, vs, rfl, h1, h2⟩
  | _ => exact q.elim
/-- an optional part -/
def noneF : Rho → R (Option Int) := fun _ => .ok none
def someF (f : Rho → R D) : Rho → R (Option Int) := fun ρ => (f ρ).bind fun
  | .int i => .ok (some i)
  | _ => .stuck
def PostO (T : Tb) (W : WX) (A : AP) (σ : L2.St) (H : Hp) (r : R (Option Int)) (Q : Option Int → Hp → Prop) : Prop := match r with
  | .ok b => ∀ H', Ex H H' → Q b H'
  | .err c fs => ∀ x H', Ex H H' → ErrDen T A H' c fs x → W (.ref (T.cls c)) x σ H'
  | .stuck => False
  | .any k => ∀ i, PostO T W A σ H (k i) Q
def tBO (T : Tb) (W : WX) (f : Rho → R (Option Int)) : TO := fun σ H Q => ∃ H0 O ρ, Rel T H0 O σ H ρ ∧ PostO T W (Av O σ ρ) σ H (f ρ) Q
theorem po_imp {e : Option Expr} {t t' : TO} (h : PO X e t) (i : ∀ σ H Q, t' σ H Q → t σ H Q) : PO X e t' := ⟨fun pins s σ H Q I q => h.run pins s σ H Q I (i σ H Q q)⟩
theorem bo_none : PO X none (tBO T W noneF) := po_imp po_none fun σ H Q ⟨H0, O, ρ, r, p⟩ => p H (Ex.refl H)
theorem bo_some (h : PE X e (tB T W f)) : PO X (some e) (tBO T W (someF f)) := po_imp (po_some h) fun σ H Q ⟨H0, O, ρ, r, p⟩ => by
  refine ⟨H0, O, ρ, r, ?_⟩
  unfold someF at p
  generalize f ρ = r0 at p ⊢
  induction r0 with
  | ok d =>
    cases d with
    | int i => exact fun v H' ex hd => ⟨i, by simpa [Den] using hd, p H' ex⟩
    | _ => exact p.elim
  | err c fs => exact p
  | stuck => exact p
  | any k0 ih => exact fun i => ih i (p i)
def slF (f : Rho → R D) (lo hi : Rho → R (Option Int)) : Rho → R D := fun ρ => (f ρ).bind fun d => (lo ρ).bind fun l => (hi ρ).bind fun h => opSl d l h
theorem tBO.bind {f : Rho → R (Option Int)} {k : Option Int → R D} {Q : VK} {R' : Option Int → Hp → Prop} (r : Rel T H0 O σ H ρ) (h : Post T W (Av O σ ρ) σ H ((f ρ).bind k) Q)
    (q : ∀ b H1, Leaf (f ρ) b → Ex H H1 → Rel T H0 O σ H1 ρ → Post T W (Av O σ ρ) σ H1 (k b) Q → R' b H1) : tBO T W f σ H R' := by
  refine ⟨H0, O, ρ, r, ?_⟩
  generalize f ρ = r0 at h q ⊢
  induction r0 with
  | ok d => exact fun H1 e1 => q d H1 (.ok d) e1 (r.mono e1) (Post.mono (r := k d) h e1)
  | err c fs => exact h
  | stuck => exact h
  | any k0 ih => exact fun i => ih i (h i) fun d H1 l => q d H1 (.any l)
theorem ne_sl (d : D) (l h : Option Int) : (opSl d l h).lf = true := by
  cases d <;> rfl
theorem be_slice {lo hi : Option Expr} {fo fh : Rho → R (Option Int)} {p2 : Pos} (hK : X.K = T.K) (he : PE X e (tP T W f)) (hl : PO X lo (tBO T W fo)) (hh : PO X hi (tBO T W fh)) : PE X (.Subscript e (.Slice lo hi none p2) pos) (tB T W (slF f fo fh)) :=
  pe_imp (pe_slice (sl_D hK) he hl hh) fun σ H Q ⟨H0, O, ρ, r, p⟩ =>
    tP.bind r p fun d v H1 _ e1 r1 d1 p1 => tBO.bind r1 p1 fun l H2 _ e2 r2 p2 => tBO.bind r2 p2 fun h H3 _ e3 r3 p3 => ⟨O, Av O σ ρ, d, r3.avdom, (d1.ex e2).ex e3, post_ok (ne_sl d l h) p3⟩
end
theorem force_PostO : True := by
  have h1 := @PostO.eq_def
  have h2 := @PostO.eq_1
  trivial
end BV
set_option Elab.async false
set_option linter.all false
set_option maxRecDepth 100000
set_option maxHeartbeats 1000000
namespace BV
open PySem L2 PySem.Spec PyProof.Rows
open Evl (Ex)

/-! ### sequences: lists and tuples -/
inductive SK where
  | l | t
def SqK (k : SK) (K : PySem.W.Frag) (H : Hp) (a : Addr) (xs : List V) : Prop := match k with
  | .l => SqL K H a xs
  | .t => SqT K H a xs
def HasK (k : SK) (h : Heap) (a : Addr) (its : Array Value) : Prop := match k with
  | .l => h.IsList a its
  | .t => h.IsTuple a its
def IterK (k : SK) (h : Heap) (it a : Addr) (i : Nat) : Prop := match k with
  | .l => h.IsListIter it a i
  | .t => h.IsTupleIter it a i
def itObj (k : SK) (a : Addr) : Obj := match k with
  | .l => { cls := .type "list_iterator", data := .fields #[.ref a, .int 0 0] }
  | .t => { cls := .type "tuple_iterator", data := .fields #[.ref a, .int 0 0] }
section
variable {X : Cx} {pins : List (Addr × Obj)} {σ : L2.St} {H : Hp} {s : Shared} {a : Addr} {xs ys : List V} {k : SK}
theorem inv_seq (I : Inv X pins σ H s) (h : SqK k X.K H a xs) : ∃ its : List Value, Vals xs its ∧ HasK k s.heap a its.toArray ∧ xs.length ≤ sizeLine := by
  cases k with
  | l => obtain ⟨its, r, p, z⟩ := I.list h; exact ⟨its, r, p.isList, z⟩
  | t => obtain ⟨its, r, p, z⟩ := I.tuple h; exact ⟨its, r, p, z⟩
theorem inv_inj (I : Inv X pins σ H s) (h : SqK k X.K H a xs) (h' : SqK k X.K H a ys) : xs = ys := by
  cases k with
  | l => exact I.list_inj h h'
  | t => exact I.tuple_inj h h'
theorem begins_K (k : SK) (a : Addr) (its : Array Value) : Begins (.ref a) (itObj k a) fun h => HasK k h a its := by
  cases k with
  | l => exact begins_list a its
  | t => exact begins_tuple a its
theorem draws_K {prog : Program} {w : World} {A : Around} (k : SK) (hh : A.handled = none) (it a : Addr) (hne : a ≠ it) (items : Array Value) :
    Draws prog w A it [it, a] items.size (fun i v => items[i]? = some v) (fun i h => IterK k h it a i ∧ HasK k h a items) := by
  cases k with
  | l => exact Draws.list hh it a hne items
  | t => exact Draws.tuple hh it a hne items
theorem HasK.lt {h : Heap} {its : Array Value} (p : HasK k h a its) : a < h.objs.size := by
  cases k with
  | l => obtain ⟨o, e, _⟩ := p; exact Heap.lt_size e
  | t => obtain ⟨o, e, _⟩ := p; exact Heap.lt_size e
theorem IterK.obj {h : Heap} {it : Addr} {i : Nat} (p : IterK k h it a i) : ∃ o, h.get? it = some o ∧ ∀ v, o.data ≠ .cell v := by
  cases k with
  | l => obtain ⟨o, e, _, d⟩ := p; exact ⟨o, e, fun v q => by rw [d] at q; cases q⟩
  | t => obtain ⟨o, e, _, d⟩ := p; exact ⟨o, e, fun v q => by rw [d] at q; cases q⟩
theorem IterK.at {h h' : Heap} {it : Addr} {i : Nat} (p : IterK k h it a i) (q : ∀ o, h.get? it = some o → h'.get? it = some o) : IterK k h' it a i := by
  cases k with
  | l => exact Heap.IsListIter.at p q
  | t => exact Heap.IsTupleIter.at p q
theorem IterK.start {h : Heap} {it : Addr} (e : h.get? it = some (itObj k a)) : IterK k h it a 0 := by
  cases k with
  | l => exact ⟨_, e, rfl, rfl⟩
  | t => exact ⟨_, e, rfl, rfl⟩
end
/-! ### enumerate(v) begins -/
theorem new_enum1 {v : Value} {o : Obj} {Hh : Heap → Prop} (B : Begins v o Hh) :
    Meets (Builtin.«enumerate.__new__» ⟨[.type "enumerate", v], []⟩) (fun _ R s => Hh s.heap ∧
      R (.ok (.ret (.ref (s.heap.push o).objs.size))) { s with heap := (s.heap.push o).push { cls := .type "enumerate", data := .fields #[.none, .bool false, .ref s.heap.objs.size, rawInt 0, .none, .none] } }) :=
  .of_wp fun prog w A R s h => by
    obtain ⟨hp, g, d, tk, os⟩ := s
    obtain ⟨h1, h⟩ := h
    have hsub := sub_enumerate
    have it1 : ∀ {A' : Around} {E : Value → Shared → Prop} {Q : Value → Shared → Prop}, Q (.ref hp.objs.size) ⟨hp.push o, g, d, tk, os⟩ → wpAny (model prog w) A' (pyIter v) Q E ⟨hp, g, d, tk, os⟩ :=
      fun q => B.iter prog w _ _ ⟨hp, g, d, tk, os⟩ _ h1 q
    wp_walk using it1
    refine wpAny_stack_any fun st => wpAny_pure ?_
    split
    · rename_i c _ _ _ _ _
      cases (c == Value.type "enumerate") <;> (wp_walk using it1; exact ⟨_, rfl, h⟩)
    · wp_walk using it1
      exact ⟨_, rfl, h⟩
theorem enum_begins1 {prog : Program} {w : World} {A : Around} {E : Value → Shared → Prop} {s : Shared} {v : Value} {o : Obj} {Hh : Heap → Prop} {Q : Value → Shared → Prop} (B : Begins v o Hh) (h1 : Hh s.heap)
    (h : ∀ h', IsEnum h' (s.heap.objs.size + 1) s.heap.objs.size 0 .none → h'.get? s.heap.objs.size = some o → h'.objs.size = s.heap.objs.size + 2 →
      (∀ b o, s.heap.get? b = some o → h'.get? b = some o) → Q (.ref (s.heap.objs.size + 1)) { s with heap := h' }) :
    wpAny (model prog w) A (call (.type "enumerate") [v]) Q E s := by
  refine callType_new F.called_enumerate (by decide) (F.typeCall_enumerate_1 _) (F.newCall_enumerate_1 _) (fun obj => F.args_object_init_2 obj _) F.entry_enumerate_new (new_enum1 B) ⟨h1, ?_⟩
  have hz : (s.heap.push o).objs.size = s.heap.objs.size + 1 := Heap.size_push ..
  show _ ∧ _
  rw [hz]
  have he : IsEnum ((s.heap.push o).push { cls := .type "enumerate", data := .fields #[.none, .bool false, .ref s.heap.objs.size, rawInt 0, .none, .none] }) (s.heap.objs.size + 1) s.heap.objs.size 0 .none := by
    have := Heap.get?_push_size (s.heap.push o) (o := { cls := .type "enumerate", data := .fields #[.none, .bool false, .ref s.heap.objs.size, rawInt 0, .none, .none] }) rfl
    rw [hz] at this; exact this
  exact ⟨⟨_, he, rfl⟩, h _ he (Heap.get?_push_of_some _ (Heap.get?_push_size _ B.free)) (by rw [Heap.size_push, hz]) fun b o x => Heap.get?_push_of_some _ (Heap.get?_push_of_some _ x)⟩
/-! ### enumerate over a list or a tuple -/
def IteK (k : SK) (K : PySem.W.Frag) (a : Addr) : It :=
  ⟨fun i H => ∃ (xs : List V) (x : V), SqK k K H a xs ∧ xs[i]? = some x, fun i H v H' => ∃ T x, v = .ref T ∧ H T = none ∧ H' = upd H T (.tup [.int (i : Nat), x]) ∧ ∀ xs, SqK k K H a xs → xs[i]? = some x, fun i H => ∃ xs : List V, SqK k K H a xs ∧ xs.length = i⟩
theorem turn_enumK {P : Program} {w : World} {K : PySem.W.Frag} {elts : List Expr} {kk : Nat} {tpos : Pos} (k : SK) (a e it : Addr) (hae : a ≠ e) (hai : a ≠ it) (hei : e ≠ it) :
    Turn P w K (.Tuple elts kk tpos) (IteK k K a) [e, it] e (fun i h => (∃ old, IsEnum h e it ((i : Nat) : Int) old) ∧ IterK k h it a i) where
  mem := by simp
  obj := fun i h st b hb => by
    obtain ⟨⟨old, he⟩, hi⟩ := st
    have e' : b = e ∨ b = it := by simpa using hb
    rcases e' with z | z
    · rw [z]; exact ⟨_, he, fun v q => nomatch q⟩
    · rw [z]; exact hi.obj
  keep := fun i h h' st k => let ⟨⟨old, he⟩, hi⟩ := st; ⟨⟨old, k e (by simp) _ he⟩, hi.at fun o q => k it (by simp) o q⟩
  item := by
    intro X hP hw hK hc i pins s σ H E I hf st hg
    subst hP hw hK
    obtain ⟨⟨old, he⟩, hit⟩ := st
    obtain ⟨xs, x, hq, hx⟩ := hg
    obtain ⟨its, rv, p, hz⟩ := inv_seq I hq
    have hel : e < s.heap.objs.size := Heap.lt_size he
    have hil : it < s.heap.objs.size := let ⟨_, q, _⟩ := hit.obj; Heap.lt_size q
    have hlen : i < its.toArray.size := by
      have := (List.getElem?_eq_some_iff.mp hx).1
      rw [List.size_toArray, ← rv.length]; exact this
    refine wpAny_mono ((GoesN.enumFrom (elts := elts) (x1 := kk) (pos := tpos) 0 (draws_K (prog := X.prog) (w := X.w) (A := X.A.in1) k (I.ok.hd hc) it a hai its.toArray) e hei (by simp [hei, Ne.symm hae]) (by simp)).goes i s (fun u s2 => ∃ x H', Inv X pins σ H' s2 ∧ RelV x u ∧ (IteK k X.K a).yld i H x H' ∧ ((∃ old, IsEnum s2.heap e it (((i + 1 : Nat)) : Int) old) ∧ IterK k s2.heap it a (i + 1)) ∧ ∀ b ∈ [e, it], H' b = none) E hlen ⟨⟨old, by simpa using he⟩, hit, p⟩ fun v h' tk hY hst hk htk => ?_) (fun r s1 h1 => ?_) fun _ _ e => e
    · obtain ⟨T, t, u, rfl, hT, hu, ht⟩ := hY
      obtain ⟨⟨old', he'⟩, hit', _⟩ := hst
      have hu' : its[i]? = some u := by simpa using hu
      have ru : RelV x u := by
        obtain ⟨u2, e1, e2⟩ := rv.get hx
        rw [hu'] at e1; cases e1; exact e2
      have new : ObjOk X.prog X.w (upd H T (.tup [.int (i : Nat), x])) h' T (.tup [.int (i : Nat), x]) :=
        ⟨by show 2 ≤ sizeLine; decide, [.int (0 + (i : Int)) t, u], .cons ⟨t, by simp⟩ (.cons ru .nil), ht⟩
      have I1 : Inv X pins σ (upd H T (.tup [.int (i : Nat), x])) { s with heap := h', toks := tk } := I.turnedNew (ch := [e, it]) hk hf hT new
      refine ⟨.ref T, _, I1, rfl, ⟨_, x, rfl, I.hok.fresh hT, rfl, fun ys hy => by rw [inv_inj I hy hq]; exact hx⟩, ⟨⟨old', ?_⟩, hit'⟩, fun b hb => ?_⟩
      · simpa using he'
      · have hb' : b < T := by
          have e' : b = e ∨ b = it := by simpa using hb
          rcases e' with z | z
          · rw [z]; exact Nat.lt_of_lt_of_le hel hT
          · rw [z]; exact Nat.lt_of_lt_of_le hil hT
        rw [upd_ne (Nat.ne_of_lt hb')]
        exact (hf b hb).1
    · exact h1
  done := by
    intro X hP hw hK hc i pins s σ H E I hf st hg
    subst hP hw hK
    obtain ⟨⟨old, he⟩, hit⟩ := st
    obtain ⟨xs, hq, hx⟩ := hg
    obtain ⟨its, rv, p, hz⟩ := inv_seq I hq
    have hsz : its.toArray.size = i := by rw [List.size_toArray, ← rv.length]; exact hx
    subst hsz
    exact (GoesN.enumFrom (elts := elts) (x1 := kk) (pos := tpos) 0 (draws_K (prog := X.prog) (w := X.w) (A := X.A.in1) k (I.ok.hd hc) it a hai its.toArray) e hei (by simp [hei, Ne.symm hae]) (by simp)).stops s (fun s1 => Inv X pins σ H s1) E ⟨⟨old, by simpa using he⟩, hit, p⟩ fun h' tk hk htk => I.turnedL (ch := [e, it]) hk hf
  self := fun A i s Q E st h => let ⟨⟨_, he⟩, _⟩ := st; wpAny_pyIter_enum he h
/-! ### zip of two of them -/
def ItzK (k1 k2 : SK) (K : PySem.W.Frag) (a b : Addr) : It :=
  ⟨fun i H => ∃ (xs ys : List V) (x y : V), SqK k1 K H a xs ∧ SqK k2 K H b ys ∧ xs[i]? = some x ∧ ys[i]? = some y,
    fun i H v H' => ∃ T x y, v = .ref T ∧ H T = none ∧ H' = upd H T (.tup [x, y]) ∧ (∀ xs, SqK k1 K H a xs → xs[i]? = some x) ∧ ∀ ys, SqK k2 K H b ys → ys[i]? = some y,
    fun i H => ∃ xs ys : List V, SqK k1 K H a xs ∧ SqK k2 K H b ys ∧ min xs.length ys.length = i⟩
theorem turn_zipK {P : Program} {w : World} {K : PySem.W.Frag} {elts : List Expr} {kk : Nat} {tpos : Pos} {a b z TI TO i1 i2 : Addr} (k1 k2 : SK) (hS : ZipSep2 z TI TO i1 i2 [i1, a] [i2, b]) (h1a : a ≠ i1) (h2b : b ≠ i2) :
    Turn P w K (.Tuple elts kk tpos) (ItzK k1 k2 K a b) [z, TI, TO, i1, i2] z (fun i h => IsZip h z TI TO .none ∧ IsTupOf2 h TI (.ref i1) (.ref i2) ∧ (∃ x y, IsTupOf2 h TO x y) ∧ IterK k1 h i1 a i ∧ IterK k2 h i2 b i) where
  mem := by simp
  obj := fun i h st c hc => by
    obtain ⟨hz, hTI, ⟨x, y, hTO⟩, h1, h2⟩ := st
    have e' : c = z ∨ c = TI ∨ c = TO ∨ c = i1 ∨ c = i2 := by simpa using hc
    rcases e' with q | q | q | q | q
    · rw [q]; exact ⟨_, hz, fun v q => nomatch q⟩
    · rw [q]; exact ⟨_, hTI, fun v q => nomatch q⟩
    · rw [q]; exact ⟨_, hTO, fun v q => nomatch q⟩
    · rw [q]; exact h1.obj
    · rw [q]; exact h2.obj
  keep := fun i h h' st k => by
    obtain ⟨hz, hTI, ⟨x, y, hTO⟩, h1, h2⟩ := st
    exact ⟨k z (by simp) _ hz, k TI (by simp) _ hTI, ⟨x, y, k TO (by simp) _ hTO⟩, h1.at fun o q => k i1 (by simp) o q, h2.at fun o q => k i2 (by simp) o q⟩
  item := by
    intro X hP hw hK hc i pins s σ H E I hf st hg
    subst hP hw hK
    obtain ⟨hz, hTI, hTO, h1, h2⟩ := st
    obtain ⟨xs, ys, x, y, hqx, hqy, hx, hy⟩ := hg
    obtain ⟨its, rv, p, _⟩ := inv_seq I hqx
    obtain ⟨its2, rv2, p2, _⟩ := inv_seq I hqy
    have hl1 : i < its.toArray.size := by
      have := (List.getElem?_eq_some_iff.mp hx).1
      rw [List.size_toArray, ← rv.length]; exact this
    have hl2 : i < its2.toArray.size := by
      have := (List.getElem?_eq_some_iff.mp hy).1
      rw [List.size_toArray, ← rv2.length]; exact this
    have lt5 : ∀ c ∈ [z, TI, TO, i1, i2], c < s.heap.objs.size := fun c hcm => by
      have e' : c = z ∨ c = TI ∨ c = TO ∨ c = i1 ∨ c = i2 := by simpa using hcm
      obtain ⟨a1, a2, hTO'⟩ := hTO
      rcases e' with q | q | q | q | q
      · rw [q]; exact Heap.lt_size hz
      · rw [q]; exact Heap.lt_size hTI
      · rw [q]; exact Heap.lt_size hTO'
      · rw [q]; obtain ⟨_, e1, _⟩ := h1.obj; exact Heap.lt_size e1
      · rw [q]; obtain ⟨_, e2, _⟩ := h2.obj; exact Heap.lt_size e2
    refine wpAny_mono ((GoesN.zip2 (elts := elts) (x1 := kk) (pos := tpos) hS (draws_K (prog := X.prog) (w := X.w) (A := X.A.in1) k1 (I.ok.hd hc) i1 a h1a its.toArray) (draws_K (prog := X.prog) (w := X.w) (A := X.A.in1) k2 (I.ok.hd hc) i2 b h2b its2.toArray)).goes i s
      (fun u s2 => ∃ x H', Inv X pins σ H' s2 ∧ RelV x u ∧ (ItzK k1 k2 X.K a b).yld i H x H' ∧ (IsZip s2.heap z TI TO .none ∧ IsTupOf2 s2.heap TI (.ref i1) (.ref i2) ∧ (∃ x y, IsTupOf2 s2.heap TO x y) ∧ IterK k1 s2.heap i1 a (i + 1) ∧ IterK k2 s2.heap i2 b (i + 1)) ∧ ∀ b ∈ [z, TI, TO, i1, i2], H' b = none) E (by omega) ⟨hz, hTI, hTO, ⟨h1, p⟩, ⟨h2, p2⟩⟩ fun v h' tk hY hst hk htk => ?_) (fun r s1 h1 => h1) fun _ _ e => e
    obtain ⟨T, u, u2, rfl, hT, hu, hu2, ht⟩ := hY
    obtain ⟨hz', hTI', hTO', ⟨h1', _⟩, ⟨h2', _⟩⟩ := hst
    have ru : RelV x u := by
      obtain ⟨w1, e1, e2⟩ := rv.get hx
      have hu' : its[i]? = some u := by simpa using hu
      rw [hu'] at e1; cases e1; exact e2
    have ru2 : RelV y u2 := by
      obtain ⟨w1, e1, e2⟩ := rv2.get hy
      have hu' : its2[i]? = some u2 := by simpa using hu2
      rw [hu'] at e1; cases e1; exact e2
    have new : ObjOk X.prog X.w (upd H T (.tup [x, y])) h' T (.tup [x, y]) := ⟨by show 2 ≤ sizeLine; decide, [u, u2], .cons ru (.cons ru2 .nil), ht⟩
    have I1 : Inv X pins σ (upd H T (.tup [x, y])) { s with heap := h', toks := tk } := I.turnedNew (ch := [z, TI, TO, i1, i2]) (fun c o hb q => hk c o (fun hm => hb (by
      have : c = z ∨ c = TO ∨ c = i1 ∨ c = i2 := by simpa using hm
      rcases this with q | q | q | q <;> simp [q])) q) hf hT new
    refine ⟨.ref T, _, I1, rfl, ⟨_, x, y, rfl, I.hok.fresh hT, rfl, fun l hl => by rw [inv_inj I hl hqx]; exact hx, fun l hl => by rw [inv_inj I hl hqy]; exact hy⟩, ⟨hz', hTI', hTO', h1', h2'⟩, fun c hcm => ?_⟩
    rw [upd_ne (Nat.ne_of_lt (Nat.lt_of_lt_of_le (lt5 c hcm) hT))]
    exact (hf c hcm).1
  done := by
    intro X hP hw hK hc i pins s σ H E I hf st hg
    subst hP hw hK
    obtain ⟨hz, hTI, hTO, h1, h2⟩ := st
    obtain ⟨xs, ys, hqx, hqy, hend⟩ := hg
    obtain ⟨its, rv, p, _⟩ := inv_seq I hqx
    obtain ⟨its2, rv2, p2, _⟩ := inv_seq I hqy
    have e : min its.toArray.size its2.toArray.size = i := by rw [List.size_toArray, List.size_toArray, ← rv.length, ← rv2.length]; exact hend
    subst e
    exact (GoesN.zip2 (elts := elts) (x1 := kk) (pos := tpos) hS (draws_K (prog := X.prog) (w := X.w) (A := X.A.in1) k1 (I.ok.hd hc) i1 a h1a its.toArray) (draws_K (prog := X.prog) (w := X.w) (A := X.A.in1) k2 (I.ok.hd hc) i2 b h2b its2.toArray)).stops s
      (fun s1 => Inv X pins σ H s1) E ⟨hz, hTI, hTO, ⟨h1, p⟩, ⟨h2, p2⟩⟩ fun h' tk hk htk => I.turnedL (ch := [z, TI, TO, i1, i2]) (fun c o hb q => hk c o (fun hm => hb (by
        have : c = z ∨ c = TO ∨ c = i1 ∨ c = i2 := by simpa using hm
        rcases this with q | q | q | q <;> simp [q])) q) hf
  self := fun A i s Q E st h => wpAny_pyIter_zip st.1 h
end BV
set_option Elab.async false
set_option linter.all false
set_option maxRecDepth 100000
set_option maxHeartbeats 1000000
namespace BV
open PySem L2 PySem.Spec PyProof.Rows
open Evl (Ex)

open Classical in
/-- the heap without the body's own objects -/
noncomputable def Fz (σ : L2.St) (ρ : Rho) (H : Hp) : Hp := fun a => if OwnA σ ρ a then none else H a
section
variable {T : Tb} {N : List Str} {sc : Scope} {W : WX} {k : Nat} {fb : Bool} {X : Cx} {O A : AP} {H0 H H' : Hp} {σ : L2.St} {ρ : Rho} {Q : VK}
variable {a b c e o tg : Expr} {f g h : Rho → R D} {fl fk : Rho → R (List D)} {p pos apos : Pos} {es : List Expr} {x m : Str}
theorem Fz.ex : Ex (Fz σ ρ H) H := fun a o h => by
  unfold Fz at h
  split at h
  · cases h
  · exact h
theorem Fz.of {a : Addr} {o : HO} (h : H a = some o) (n : ¬ OwnA σ ρ a) : Fz σ ρ H a = some o := by
  unfold Fz; rw [if_neg n]; exact h
theorem Rel.kind (r : Rel T H0 O σ H ρ) {a : Addr} (h : OwnA σ ρ a) : Mb (H a) := by
  obtain ⟨i, d, h1, h2⟩ := h
  obtain ⟨b, e1, _, e2⟩ := r.own i d h1
  rw [h2] at e1; cases e1
  cases d with
  | lst ds => obtain ⟨vs, z, _⟩ := e2; rw [z]; trivial
  | ins c fs => obtain ⟨dx, vs, z, _⟩ := e2; rw [z]; trivial
  | dct ks ds => obtain ⟨es, z, _⟩ := e2; rw [z]; trivial
  | _ => exact e2.elim
mutual
theorem Den.fz (r : Rel T H0 O σ H ρ) : ∀ {d : D} {v : V}, Den T (Av O σ ρ) H d v → Den T O (Fz σ ρ H) d v
  | .non, _, h => by simpa [Den] using h
  | .bl _, _, h => by simpa [Den] using h
  | .int _, _, h => by simpa [Den] using h
  | .str _, _, h => by simpa [Den] using h
  | .tup ds, _, h => by
    simp only [Den] at h ⊢
    obtain ⟨a, vs, e1, e2, e3⟩ := h
    refine ⟨a, vs, e1, ?_, Dens.fz r e3⟩
    rcases e2 with (e2 | ⟨ob, e2⟩) | e2
    · refine .inl (.inl (Fz.of e2 fun z => ?_))
      have q := r.kind z; rw [e2] at q; exact q
    · refine .inl (.inr ⟨ob, Fz.of e2 fun z => ?_⟩)
      have q := r.kind z; rw [e2] at q; exact q
    · exact .inr e2
  | .lst ds, _, h => by
    simp only [Den] at h ⊢
    obtain ⟨a, vs, e1, e2, e4, e3⟩ := h
    exact ⟨a, vs, e1, Fz.of e2 fun z => e4 (.inr z), fun z => e4 (.inl z), Dens.fz r e3⟩
  | .scr ns, _, h => by
    simp only [Den] at h ⊢
    obtain ⟨a, e1, e2⟩ := h
    refine ⟨a, e1, ?_⟩
    rcases e2 with ⟨o, e2⟩ | e2
    · refine .inl ⟨o, Fz.of e2 fun z => ?_⟩
      have q := r.kind z; rw [e2] at q; exact q
    · exact .inr e2
  | .drw ns, _, h => by
    simp only [Den] at h ⊢
    obtain ⟨a, b, e1, e2, e4, e3⟩ := h
    refine ⟨a, b, e1, Fz.of e2 fun z => e4 (.inr z), fun z => e4 (.inl z), ?_⟩
    rcases e3 with ⟨o, e3⟩ | e3
    · refine .inl ⟨o, Fz.of e3 fun z => ?_⟩
      have q := r.kind z; rw [e3] at q; exact q
    · exact .inr e3
  | .dct _ _, _, h => by
    simp only [Den] at h ⊢
    obtain ⟨a, es, e1, e2, e4, e5, e3, e6⟩ := h
    exact ⟨a, es, e1, Fz.of e2 fun z => e4 (.inr z), fun z => e4 (.inl z), e5, Dens.fz r e3, Dens.fz r e6⟩
  | .fn _, _, h => by simpa [Den] using h
  | .ins c fs, _, h => by
    simp only [Den] at h ⊢
    obtain ⟨a, dx, vs, e1, e2, e5, e4, e3⟩ := h
    exact ⟨a, dx, vs, e1, Fz.of e2 fun z => e4 (.inr z), e5, fun z => e4 (.inl z), Dens.fz r e3⟩
theorem Dens.fz (r : Rel T H0 O σ H ρ) : ∀ {ds : List D} {vs : List V}, Dens T (Av O σ ρ) H ds vs → Dens T O (Fz σ ρ H) ds vs
  | [], _, h => by simpa [Dens] using h
  | _ :: _, _, h => by
    simp only [Dens] at h ⊢
    obtain ⟨v, r', e1, e2, e3⟩ := h
    exact ⟨v, r', e1, Den.fz r e2, Dens.fz r e3⟩
end
/-- begin anew from here: what isn't the body's own stays -/
theorem Rel.rebase (r : Rel T H0 O σ H ρ) : Rel T (Fz σ ρ H) O σ H ρ where
  ex := Fz.ex
  dom := r.dom
  len := r.len
  val := r.val
  own := fun i d h => by
    obtain ⟨a, e1, e2, e3⟩ := r.own i d h
    refine ⟨a, e1, ⟨?_, e2.2⟩, e3⟩
    unfold Fz
    rw [if_pos ⟨i, d, h, e1⟩]
  inj := r.inj
theorem Rel.unbase {Hb : Hp} (r : Rel T Hb O σ H ρ) (e : Ex H0 Hb) : Rel T H0 O σ H ρ where
  ex := e.trans r.ex
  dom := r.dom
  len := r.len
  val := r.val
  own := fun i d h => by
    obtain ⟨a, e1, e2, e3⟩ := r.own i d h
    exact ⟨a, e1, ⟨Evl.fresh_back e e2.1, e2.2⟩, e3⟩
  inj := r.inj
theorem Rel.exFz (r : Rel T H0 O σ H ρ) : Ex H0 (Fz σ ρ H) := fun a o h => Fz.of (r.ex a o h) fun ⟨i, d, h1, h2⟩ => by
  obtain ⟨b, e1, e2, _⟩ := r.own i d h1
  rw [h2] at e1; cases e1
  rw [h] at e2; cases e2.1
/-- what stood in the ground stands, and is none of the own objects -/
theorem Den.up {Hb : Hp} {d : D} {v : V} (r : Rel T Hb O σ H ρ) (h : Den T O Hb d v) : Den T (Av O σ ρ) H d v := h.mono r.ex fun a z hn => by
  rcases z with z | ⟨i, d, h1, h2⟩
  · exact z
  · obtain ⟨b, e1, e2, _⟩ := r.own i d h1
    rw [h2] at e1; cases e1
    exact absurd e2.1 hn

theorem Rel.avgr {Hb : Hp} (r : Rel T Hb O σ H ρ) : ∀ a, Av O σ ρ a → (O a ∨ Hb a = none) := fun a h => h.imp id fun ⟨i, d, h1, h2⟩ => by
  obtain ⟨b, e1, e2, _⟩ := r.own i d h1
  rw [h2] at e1; cases e1
  exact e2.1
/-! ### what is walked -/
/-- avoid what isn't of the ground -/
def Gr (O : AP) (Hb : Hp) : AP := fun a => O a ∨ Hb a = none
theorem Den.gr {Hb : Hp} {d : D} {v : V} (h : Den T O Hb d v) (e : Ex Hb H) : Den T (Gr O Hb) H d v := h.mono e fun a z hn => z.elim id fun z => absurd z hn
def Walks (T : Tb) (O : AP) (Hb : Hp) (J : It) (ds : List D) : Prop := ∀ H, Ex Hb H → J.stop ds.length H ∧ ∀ (i : Nat) (d : D), ds[i]? = some d → J.go i H ∧ ∀ x H2, J.yld i H x H2 → Ex H H2 ∧ Den T (Gr O Hb) H2 d x
theorem Walks.mono {Hb Hb' : Hp} {J : It} {ds : List D} (w : Walks T O Hb J ds) (e : Ex Hb Hb') : Walks T O Hb' J ds := fun H e2 => ⟨(w H (e.trans e2)).1, fun i d ed => ⟨((w H (e.trans e2)).2 i d ed).1, fun x H2 y => ⟨(((w H (e.trans e2)).2 i d ed).2 x H2 y).1, (((w H (e.trans e2)).2 i d ed).2 x H2 y).2.weak fun a z => z.imp id fun z => Evl.fresh_back e z⟩⟩⟩
def PostW (T : Tb) (W : WX) (O A : AP) (σ : L2.St) (ρ : Rho) (H : Hp) (r : R (List D)) (R' : It → Hp → Prop) : Prop := match r with
  | .ok ds => ∀ J H', Ex H H' → Walks T O (Fz σ ρ H') J ds → R' J H'
  | .err c fs => ∀ x H', Ex H H' → ErrDen T A H' c fs x → W (.ref (T.cls c)) x σ H'
  | .stuck => False
  | .any k => ∀ i, PostW T W O A σ ρ H (k i) R'
def tI (T : Tb) (W : WX) (f : Rho → R (List D)) : TI := fun σ H R' => ∃ H0 O ρ, Rel T H0 O σ H ρ ∧ PostW T W O (Av O σ ρ) σ ρ H (f ρ) R'
theorem PostW.mono {r : R (List D)} {R' : It → Hp → Prop} (h : PostW T W O A σ ρ H r R') (e : Ex H H') : PostW T W O A σ ρ H' r R' := by
  induction r with
  | ok d => exact fun v H2 e2 q => h v H2 (e.trans e2) q
  | err c fs => exact fun v H2 e2 q => h v H2 (e.trans e2) q
  | stuck => exact h
  | any k ih => exact fun i => ih i (h i)
theorem tB.bindW {f : Rho → R D} {F : D → R (List D)} {R' : It → Hp → Prop} {K' : VK} (r : Rel T H0 O σ H ρ) (p : PostW T W O (Av O σ ρ) σ ρ H ((f ρ).bind F) R')
    (q : ∀ d v H1, Ex H H1 → Rel T H0 O σ H1 ρ → Den T (Av O σ ρ) H1 d v → PostW T W O (Av O σ ρ) σ ρ H1 (F d) R' → K' v H1) : tB T W f σ H K' := by
  refine ⟨H0, O, ρ, r, ?_⟩
  generalize f ρ = r0 at p ⊢
  induction r0 with
  | err c fs => exact p
  | stuck => exact p
  | any k0 ih => exact fun i => ih i (p i)
  | ok d =>
    exact fun v H1 e1 hd => q d v H1 e1 (r.mono e1) hd (PostW.mono (r := F d) p e1)
theorem pi_imp {iter : Expr} {t t' : TI} (h : PI X tg iter t) (i : ∀ σ H Q, t' σ H Q → t σ H Q) : PI X tg iter t' := ⟨fun pins s σ H Q I q => h.run pins s σ H Q I (i σ H Q q)⟩
def seqD : D → R (List D)
  | .lst ds => .ok ds
  | .tup ds => .ok ds
  | .scr ns => .ok (ns.map D.int)
  | _ => .stuck
theorem rd_seq {K : PySem.W.Frag} {kd : SK} {Hb H : Hp} {a : Addr} {vs : List V} (h : SqK kd K Hb a vs) (e : Ex Hb H) : SqK kd K H a vs := by
  cases kd with
  | l => exact Evl.ex_l e h
  | t => exact Evl.ex_t e h
/-- data that can be walked lie as a list or a tuple -/
theorem den_seq {d : D} {v : V} {ds : List D} (h : Den T O H d v) (e : seqD d = .ok ds) : ∃ kd a vs, v = .ref a ∧ SqK kd T.K H a vs ∧ Dens T O H ds vs := by
  cases d <;> simp only [seqD, R.ok.injEq, reduceCtorEq] at e
  · subst e
    simp only [Den] at h
    obtain ⟨a, vs, rfl, h1, h2⟩ := h
    exact ⟨.t, a, vs, rfl, h1, h2⟩
  · subst e
    simp only [Den] at h
    obtain ⟨a, vs, rfl, h1, _, h2⟩ := h
    exact ⟨.l, a, vs, rfl, .inl (.inl h1), h2⟩
  · subst e
    simp only [Den] at h
    obtain ⟨a, rfl, h1⟩ := h
    exact ⟨.l, a, _, rfl, h1.sq, Dens.int _⟩
theorem seqD_err {d : D} {c : Nat} {fs : List D} : seqD d ≠ .err c fs := by cases d <;> simp [seqD]
theorem seqD_any {d : D} {k : Int → R (List D)} : seqD d ≠ .any k := by cases d <;> simp [seqD]
theorem sq_inj {pins : List (Addr × Obj)} {s : Shared} {kd : SK} {a : Addr} {xs ys : List V} (I : Inv X pins σ H s) (h : SqK kd X.K H a xs) (h' : SqK kd X.K H a ys) : xs = ys := inv_inj I h h'
/-- a walk gets its items from H alone: the item's place is fixed by any reading of the list (the heap is held by Inv where it matters) -/
theorem walks_l {kd : SK} {Hb : Hp} {a : Addr} {vs : List V} {ds : List D} {J : It} (hs : SqK kd T.K Hb a vs) (hd : Dens T O Hb ds vs)
    (hstop : ∀ H, SqK kd T.K H a vs → J.stop vs.length H) (hgo : ∀ H (i : Nat) x, SqK kd T.K H a vs → vs[i]? = some x → J.go i H)
    (hy : ∀ H (i : Nat) x v H2, SqK kd T.K H a vs → vs[i]? = some x → J.yld i H v H2 → H2 = H ∧ v = x) : Walks T O Hb J ds := fun H e => by
  have h1 := rd_seq hs e
  refine ⟨by rw [← hd.length]; exact hstop H h1, fun i d ed => ?_⟩
  obtain ⟨x, ex, dx⟩ := hd.get ed
  refine ⟨hgo H i x h1 ex, fun v H2 y => ?_⟩
  obtain ⟨rfl, rfl⟩ := hy H i x v H2 h1 ex y
  exact ⟨Ex.refl _, dx.gr e⟩
theorem postW_seq {d : D} {R' : It → Hp → Prop} {F : List D → List D} (p : PostW T W O A σ ρ H ((seqD d).bind fun ds => .ok (F ds)) R') : ∃ ds, seqD d = .ok ds ∧ ∀ J, Walks T O (Fz σ ρ H) J (F ds) → R' J H := by
  cases es : seqD d with
  | ok ds => rw [es] at p; exact ⟨ds, rfl, fun J w => p J H (Ex.refl H) w⟩
  | err c fs => exact (seqD_err es).elim
  | any k => exact (seqD_any es).elim
  | stuck => rw [es] at p; exact p.elim
theorem postW_seq0 {d : D} {R' : It → Hp → Prop} (p : PostW T W O A σ ρ H (seqD d) R') : ∃ ds, seqD d = .ok ds ∧ ∀ J, Walks T O (Fz σ ρ H) J ds → R' J H := by
  cases es : seqD d with
  | ok ds => rw [es] at p; exact ⟨ds, rfl, fun J w => p J H (Ex.refl H) w⟩
  | err c fs => exact (seqD_err es).elim
  | any k => exact (seqD_any es).elim
  | stuck => rw [es] at p; exact p.elim
theorem bi_seq (C : Cok T N sc W k fb X) (he : PE X e (tB T W f)) : PI X tg e (tI T W fun ρ => (f ρ).bind seqD) := by
  refine ⟨fun pins s σ H R' I h => ?_⟩
  obtain ⟨H0, O, ρ, r, p⟩ := h
  have q : tB T W f σ H fun v H1 => ∃ d ds, seqD d = .ok ds ∧ Den T (Av O σ ρ) H1 d v ∧ Ex H H1 ∧ ∀ J, Walks T O (Fz σ ρ H1) J ds → R' J H1 :=
    tB.bindW r p fun d v H1 e1 r1 d1 p1 => let ⟨ds, es, q⟩ := postW_seq0 p1; ⟨d, ds, es, d1, e1, q⟩
  refine thn (he.run pins s σ H _ I q) fun u s1 ⟨v, H1, I1, r1, d, ds, es, hd, e1, q1⟩ => ?_
  obtain ⟨kd, a, vs, rfl, hs, hv⟩ := den_seq (hd.fz (r.mono e1)) es
  obtain rfl : u = Value.ref a := r1
  have hs1 : SqK kd X.K H1 a vs := by rw [C.hK]; exact rd_seq hs Fz.ex
  have fp : ∀ b ∈ [s1.heap.objs.size], FpOk X pins H1 b := fun b hb => by
    have e : b = s1.heap.objs.size := by simpa using hb
    subst e
    exact I1.fpOk (Nat.le_refl _) (I1.hok.fresh (Nat.le_refl _))
  cases kd with
  | l =>
    obtain ⟨its, rv, p', hz⟩ := I1.list hs1
    refine wpAny_pyIter_list p'.isList ?_
    refine ⟨s1.heap.objs.size, [s1.heap.objs.size], _, Itl X.K a, H1, rfl, I1.kept (t' := s1.toks) fun b o e => Heap.get?_push_of_some _ e, turn_list a _, ⟨_, Heap.get?_push_size _ rfl, rfl, rfl⟩, fp, q1 _ ?_⟩
    rw [C.hK]
    exact walks_l (kd := .l) hs hv (fun H h => ⟨vs, h, Nat.le_refl _⟩) (fun H i x h e => ⟨vs, x, h, e⟩) fun H i x v H2 h e ⟨y1, y2⟩ => ⟨y1, by have := y2 vs h; rw [e] at this; cases this; rfl⟩
  | t =>
    obtain ⟨its, rv, p', hz⟩ := I1.tuple hs1
    refine wpAny_pyIter_tuple (show s1.heap.IsTuple a its.toArray from p') ?_
    refine ⟨s1.heap.objs.size, [s1.heap.objs.size], _, Itt X.K a, H1, rfl, I1.kept (t' := s1.toks) fun b o e => Heap.get?_push_of_some _ e, turn_tuple a _, ⟨_, Heap.get?_push_size _ rfl, rfl, rfl⟩, fp, q1 _ ?_⟩
    rw [C.hK]
    exact walks_l (kd := .t) hs hv (fun H h => ⟨vs, h, Nat.le_refl _⟩) (fun H i x h e => ⟨vs, x, h, e⟩) fun H i x v H2 h e ⟨y1, y2⟩ => ⟨y1, by have := y2 vs h; rw [e] at this; cases this; rfl⟩
/-! ### range -/
def rngD (i j : Int) : List D := (List.range (j - i).toNat).map fun (n : Nat) => D.int (i + n)
/-- a small number; by its parts, so that it is quickly seen -/
def smallI : Int → Bool
  | .ofNat n => Nat.ble n 1000000
  | .negSucc n => Nat.ble n 1000000
theorem smallI_ok {j : Int} (h : smallI j = true) : -1000001 ≤ j ∧ j ≤ 1000000 := by
  cases j with
  | ofNat n => have := Nat.le_of_ble_eq_true h; exact ⟨by show _ ≤ (n : Int); omega, by show (n : Int) ≤ _; omega⟩
  | negSucc n => have := Nat.le_of_ble_eq_true h; omega
theorem smallI_of {j : Int} (h0 : 0 ≤ j) (h1 : j ≤ 1000000) : smallI j = true := by
  cases j with
  | ofNat n => exact Nat.ble_eq_true_of_le (by have : (n : Int) ≤ 1000000 := h1; omega)
  | negSucc n => omega
def rng1 : List D → R (List D)
  | [.int j] => if smallI j = true then .ok (rngD 0 j) else .stuck
  | _ => .stuck
def rng2 : List D → R (List D)
  | [.int i, .int j] => if smallI i = true ∧ smallI j = true then .ok (rngD i j) else .stuck
  | _ => .stuck
theorem walks_r {Hb : Hp} (i j : Int) : Walks T O Hb (Itr i (j - i).toNat) (rngD i j) := fun H e => by
  refine ⟨by show (j - i).toNat ≤ _; simp [rngD], fun n d ed => ?_⟩
  have hn : n < (j - i).toNat := by
    have := (List.getElem?_eq_some_iff.mp ed).1
    simpa [rngD] using this
  refine ⟨hn, fun x H2 ⟨y1, y2⟩ => ?_⟩
  subst y1 y2
  refine ⟨Ex.refl _, ?_⟩
  have : d = D.int (i + n) := by
    unfold rngD at ed
    rw [List.getElem?_map, List.getElem?_range hn] at ed
    simpa using ed.symm
  subst this
  simp [Den]
theorem tPs_range {F : List D → R (List D)} {fl : Rho → R (List D)} {R' : It → Hp → Prop} {K' : List V → Hp → Prop} (h : tI T W (fun ρ => (fl ρ).bind F) σ H R')
    (hF : ∀ ds, (F ds).lf = true) (q : ∀ O A ds rs vs H1, F ds = .ok rs → SDens T O A H1 ds vs → (∀ J, (∀ Hb, Walks T O Hb J rs) → R' J H1) → K' vs H1) : tPs T W fl σ H K' := by
  obtain ⟨H0, O, ρ, r, p⟩ := h
  refine ⟨H0, O, ρ, r, ?_⟩
  dsimp only at p
  generalize fl ρ = r0 at p ⊢
  induction r0 with
  | err c fs => exact p
  | stuck => exact p
  | any k0 ih => exact fun i => ih i (p i)
  | ok ds =>
    cases eF : F ds with
    | ok rs =>
      simp only [R.bind, eF] at p
      exact fun vs H1 e1 hd => q O (Av O σ ρ) ds rs vs H1 eF hd fun J w => p J H1 e1 (w _)
    | err c fs => have z := hF ds; rw [eF] at z; cases z
    | any k => have z := hF ds; rw [eF] at z; cases z
    | stuck => simp only [R.bind, eF] at p; exact p.elim
theorem bi_range1 (hg : Gl X "range") (hm : X.mg "range" = none) (ha : PA X [a] (tPs T W fl)) (h1 : isStar a = false) : PI X tg (.Call (.Name "range" p) [a] [] pos) (tI T W fun ρ => (fl ρ).bind rng1) :=
  pi_imp (pi_range1 hg hm ha (star_cons h1)) fun σ H R' h => tPs_range h (fun ds => by unfold rng1; split <;> (try rfl) <;> split <;> rfl) fun O A ds rs vs H1 eF hd q => by
    unfold rng1 at eF
    split at eF
    · split at eF
      · rename_i j hz
        cases eF
        obtain ⟨v, rfl, h1⟩ := hd.one
        obtain rfl := h1.int
        have hz := smallI_ok hz
        exact ⟨j, rfl, by omega, by omega, q _ fun Hb => by simpa using walks_r (T := T) (O := O) (Hb := Hb) 0 j⟩
      · cases eF
    · cases eF
theorem bi_range2 (hg : Gl X "range") (hm : X.mg "range" = none) (ha : PA X [a, b] (tPs T W fl)) (h1 : isStar a = false) (h2 : isStar b = false) : PI X tg (.Call (.Name "range" p) [a, b] [] pos) (tI T W fun ρ => (fl ρ).bind rng2) :=
  pi_imp (pi_range2 hg hm ha (by rw [star_cons h1, star_cons h2]; rfl) (star_cons h2)) fun σ H R' h => tPs_range h (fun ds => by unfold rng2; split <;> (try rfl) <;> split <;> rfl) fun O A ds rs vs H1 eF hd q => by
    unfold rng2 at eF
    split at eF
    · split at eF
      · rename_i i j hz
        cases eF
        obtain ⟨v, w, rfl, h1, h2⟩ := hd.two
        obtain rfl := h1.int
        obtain rfl := h2.int
        have z1 := smallI_ok hz.1
        have z2 := smallI_ok hz.2
        exact ⟨i, j, rfl, ⟨by omega, by omega, by omega, by omega⟩, q _ fun Hb => walks_r i j⟩
      · cases eF
    · cases eF
/-! ### enumerate, zip -/
def enumD (ds : List D) : List D := ds.zipIdx.map fun p => D.tup [.int p.2, p.1]
def zipD (ds es : List D) : List D := (ds.zip es).map fun p => D.tup [p.1, p.2]
theorem walks_e {kd : SK} {Hb : Hp} {a : Addr} {vs : List V} {ds : List D} (hs : SqK kd T.K Hb a vs) (hd : Dens T O Hb ds vs) : Walks T O Hb (IteK kd T.K a) (enumD ds) := fun H e => by
  have h1 := rd_seq hs e
  refine ⟨⟨vs, h1, by simp [enumD, hd.length]⟩, fun i d ed => ?_⟩
  unfold enumD at ed
  rw [List.getElem?_map, List.getElem?_zipIdx] at ed
  cases eds : ds[i]? with
  | none => rw [eds] at ed; simp at ed
  | some d' =>
    rw [eds] at ed
    simp at ed
    subst ed
    obtain ⟨x, ex, dx⟩ := hd.get eds
    refine ⟨⟨vs, x, h1, ex⟩, fun v H2 ⟨t, y, y1, y2, y3, y4⟩ => ?_⟩
    have ey := y4 vs h1
    rw [ex] at ey; cases ey
    subst y1 y3
    refine ⟨Ex.new y2, ?_⟩
    simp only [Den]
    exact ⟨t, _, rfl, .inl (.inl upd_same), .cons (by simp [Den]) (.cons ((dx.gr e).ex (Ex.new y2)) .nil)⟩
theorem walks_z {k1 k2 : SK} {Hb : Hp} {a b : Addr} {vs ws : List V} {ds es : List D} (hs : SqK k1 T.K Hb a vs) (hd : Dens T O Hb ds vs) (hs2 : SqK k2 T.K Hb b ws) (hd2 : Dens T O Hb es ws) : Walks T O Hb (ItzK k1 k2 T.K a b) (zipD ds es) := fun H e => by
  have h1 := rd_seq hs e
  have h2 := rd_seq hs2 e
  refine ⟨⟨vs, ws, h1, h2, by simp [zipD, hd.length, hd2.length]⟩, fun i d ed => ?_⟩
  have hi : i < min ds.length es.length := by
    have := (List.getElem?_eq_some_iff.mp ed).1
    simpa [zipD] using this
  have hi1 : i < ds.length := by omega
  have hi2 : i < es.length := by omega
  have e1 : ds[i]? = some ds[i] := List.getElem?_eq_getElem hi1
  have e2 : es[i]? = some es[i] := List.getElem?_eq_getElem hi2
  have ed' : d = D.tup [ds[i], es[i]] := by
    have := (List.getElem?_eq_some_iff.mp ed).2
    simpa [zipD] using this.symm
  subst ed'
  obtain ⟨x, ex, dx⟩ := hd.get e1
  obtain ⟨y, ey, dy⟩ := hd2.get e2
  refine ⟨⟨vs, ws, x, y, h1, h2, ex, ey⟩, fun v H2 ⟨t, x', y', y1, y2, y3, y4, y5⟩ => ?_⟩
  have q1 := y4 vs h1
  rw [ex] at q1; cases q1
  have q2 := y5 ws h2
  rw [ey] at q2; cases q2
  subst y1 y3
  refine ⟨Ex.new y2, ?_⟩
  simp only [Den]
  exact ⟨t, _, rfl, .inl (.inl upd_same), .cons ((dx.gr e).ex (Ex.new y2)) (.cons ((dy.gr e).ex (Ex.new y2)) .nil)⟩
theorem bi_enum {elts : List Expr} {kk : Nat} {tpos : Pos} (C : Cok T N sc W k fb X) (hg : Gl X "enumerate") (hm : X.mg "enumerate" = none) (he : PE X a (tB T W f)) (h1 : isStar a = false) :
    PI X (.Tuple elts kk tpos) (.Call (.Name "enumerate" p) [a] [] pos) (tI T W fun ρ => (f ρ).bind fun d => (seqD d).bind fun ds => .ok (enumD ds)) := by
  refine ⟨fun pins s σ H R' I h => ?_⟩
  obtain ⟨H0, O, ρ, r, p⟩ := h
  have ha : PA X [a] (tCons (tB T W f) tNil) := pa_cons he pa_nil (star_cons h1)
  have q : tCons (tB T W f) tNil σ H fun vs H1 => ∃ v d ds, vs = [v] ∧ seqD d = .ok ds ∧ Den T (Av O σ ρ) H1 d v ∧ Ex H H1 ∧ ∀ J, Walks T O (Fz σ ρ H1) J (enumD ds) → R' J H1 :=
    tB.bindW r p fun d v H1 e1 r1 d1 p1 => let ⟨ds, es, q⟩ := postW_seq p1; ⟨v, d, ds, rfl, es, d1, e1, q⟩
  refine Call_ (ld_blt I hg hm boot_enumerate (PyProof.Rows.callWith_type1 (thn (ha.run pos pins s σ H _ I q) fun us s1 ⟨vs, H1, I1, r1, q1⟩ => ?_) (star_cons h1) rfl))
  obtain ⟨v, d, ds, rfl, es, hd, e1, q1⟩ := q1
  obtain ⟨kd, ad, vs, rfl, hs, hv⟩ := den_seq (hd.fz (r.mono e1)) es
  obtain ⟨u, rfl, ru⟩ := vals1 r1
  obtain rfl : u = Value.ref ad := ru
  have hs1 : SqK kd X.K H1 ad vs := by rw [C.hK]; exact rd_seq hs Fz.ex
  obtain ⟨its, rv, p', hz⟩ := inv_seq I1 hs1
  have hlt := p'.lt
  refine enum_begins1 (begins_K kd ad its.toArray) p' fun h' hE hI hsz hk => wpAny_pyIter_enum hE ?_
  have I2 : Inv X pins σ H1 { s1 with heap := h' } := I1.kept (t' := s1.toks) hk
  refine ⟨s1.heap.objs.size + 1, [s1.heap.objs.size + 1, s1.heap.objs.size], _, _, H1, rfl, I2, turn_enumK kd ad (s1.heap.objs.size + 1) s1.heap.objs.size (Nat.ne_of_lt (Nat.lt_succ_of_lt hlt)) (Nat.ne_of_lt hlt) (Nat.succ_ne_self _), ⟨⟨.none, hE⟩, .start hI⟩, fun b hb => ?_, q1 _ (by rw [C.hK]; exact walks_e hs hv)⟩
  have e' : b = s1.heap.objs.size + 1 ∨ b = s1.heap.objs.size := by simpa using hb
  have hle : s1.heap.objs.size ≤ b := by
    rcases e' with z | z
    · rw [z]; exact Nat.le_add_right _ _
    · rw [z]; exact Nat.le_refl _
  exact I1.fpOk hle (I1.hok.fresh hle)
theorem bi_zip {elts : List Expr} {kk : Nat} {tpos : Pos} (C : Cok T N sc W k fb X) (hg : Gl X "zip") (hm : X.mg "zip" = none) (he : PE X a (tB T W f)) (he2 : PE X b (tB T W g)) (h1 : isStar a = false) (h2 : isStar b = false) :
    PI X (.Tuple elts kk tpos) (.Call (.Name "zip" p) [a, b] [] pos) (tI T W fun ρ => (f ρ).bind fun d => (g ρ).bind fun e => (seqD d).bind fun ds => (seqD e).bind fun es => .ok (zipD ds es)) := by
  refine ⟨fun pins s σ H R' I h => ?_⟩
  obtain ⟨H0, O, ρ, r, p⟩ := h
  have ha : PA X [a, b] (tCons (tB T W f) (tCons (tB T W g) tNil)) := pa_cons he (pa_cons he2 pa_nil (star_cons h2)) (star_cons h1)
  have q : tCons (tB T W f) (tCons (tB T W g) tNil) σ H fun vs H1 => ∃ v w d e ds es, vs = [v, w] ∧ seqD d = .ok ds ∧ seqD e = .ok es ∧ Den T (Av O σ ρ) H1 d v ∧ Den T (Av O σ ρ) H1 e w ∧ Ex H H1 ∧ ∀ J, Walks T O (Fz σ ρ H1) J (zipD ds es) → R' J H1 :=
    tB.bindW r p fun d v H1 e1 r1 d1 p1 => tB.bindW r1 p1 fun e w H2 e2 r2 d2 p2 => by
      cases es1 : seqD d with
      | ok ds =>
        rw [es1] at p2
        obtain ⟨es, e3, q⟩ := postW_seq (F := fun es => zipD ds es) p2
        exact ⟨v, w, d, e, ds, es, rfl, es1, e3, d1.ex e2, d2, e1.trans e2, q⟩
      | err c fs => exact (seqD_err es1).elim
      | any k => exact (seqD_any es1).elim
      | stuck => rw [es1] at p2; exact p2.elim
  refine Call_ (ld_blt I hg hm PyProof.Rows.boot_zip (PyProof.Rows.callWith_type1 (thn (ha.run pos pins s σ H _ I q) fun us s1 ⟨vs, H1, I1, r1, q1⟩ => ?_) (star_cons h1) (star_any (by simp [noStar, h2]))))
  obtain ⟨v, w, d, e, ds, es, rfl, es1, es2, hd, hd2, e1, q1⟩ := q1
  obtain ⟨k1, a1, vs, rfl, hs, hv⟩ := den_seq (hd.fz (r.mono e1)) es1
  obtain ⟨k2, a2, ws, rfl, hs2, hv2⟩ := den_seq (hd2.fz (r.mono e1)) es2
  obtain ⟨u, u2, rfl, ru, ru2⟩ := vals2 r1
  obtain rfl : u = Value.ref a1 := ru
  obtain rfl : u2 = Value.ref a2 := ru2
  have hs1 : SqK k1 X.K H1 a1 vs := by rw [C.hK]; exact rd_seq hs Fz.ex
  have hs21 : SqK k2 X.K H1 a2 ws := by rw [C.hK]; exact rd_seq hs2 Fz.ex
  obtain ⟨its, rv, p', hz⟩ := inv_seq I1 hs1
  obtain ⟨its2, rv2, p2', hz2⟩ := inv_seq I1 hs21
  have hlt := p'.lt
  have hlt2 := p2'.lt
  refine zip_begins2 (begins_K k1 a1 its.toArray) (begins_K k2 a2 its2.toArray) p' p2' fun h' hZ hTI hTO hI1 hI2 hsz hk => wpAny_pyIter_zip hZ ?_
  have I2 : Inv X pins σ H1 { s1 with heap := h' } := I1.kept (t' := s1.toks) hk
  have hS : ZipSep2 (s1.heap.objs.size + 4) (s1.heap.objs.size + 2) (s1.heap.objs.size + 3) s1.heap.objs.size (s1.heap.objs.size + 1) [s1.heap.objs.size, a1] [s1.heap.objs.size + 1, a2] :=
    zip_sep2 (fp1 := [a1]) (fp2 := [a2]) (fun b hb => by have : b = a1 := by simpa using hb
                                                         rw [this]; exact hlt) (fun b hb => by have : b = a2 := by simpa using hb
                                                                                               rw [this]; exact hlt2)
  refine ⟨s1.heap.objs.size + 4, [s1.heap.objs.size + 4, s1.heap.objs.size + 2, s1.heap.objs.size + 3, s1.heap.objs.size, s1.heap.objs.size + 1], _, _, H1, rfl, I2, turn_zipK k1 k2 hS (Nat.ne_of_lt hlt) (Nat.ne_of_lt (Nat.lt_succ_of_lt hlt2)),
    ⟨hZ, hTI, ⟨_, _, hTO⟩, .start hI1, .start hI2⟩, fun c hcm => ?_, q1 _ (by rw [C.hK]; exact walks_z hs hv hs2 hv2)⟩
  have e' : c = s1.heap.objs.size + 4 ∨ c = s1.heap.objs.size + 2 ∨ c = s1.heap.objs.size + 3 ∨ c = s1.heap.objs.size ∨ c = s1.heap.objs.size + 1 := by simpa using hcm
  have hle : s1.heap.objs.size ≤ c := by
    rcases e' with z | z | z | z | z
    · rw [z]; exact Nat.le_add_right _ _
    · rw [z]; exact Nat.le_add_right _ _
    · rw [z]; exact Nat.le_add_right _ _
    · rw [z]; exact Nat.le_refl _
    · rw [z]; exact Nat.le_add_right _ _
  exact I1.fpOk hle (I1.hok.fresh hle)
end
theorem force_PostW : True := by
  have h1 := @PostW.eq_def
  have h2 := @PostW.eq_1
  trivial
end BV
set_option Elab.async false
set_option linter.all false
set_option maxRecDepth 100000
set_option maxHeartbeats 1000000
namespace BV
open PySem L2 PySem.Spec PyProof.Rows
open Evl (Ex)

section
variable {T : Tb} {N : List Str} {sc : Scope} {W : WX} {k : Nat} {fb : Bool} {X : Cx} {O A : AP} {H0 H H' : Hp} {σ : L2.St} {ρ : Rho} {Q : VK}
theorem get_set_self {α : Type} {l : List (Option α)} {i : Nat} {x y : Option α} (h : (l.set i x)[i]? = some y) : y = x := by
  by_cases hi : i < l.length
  · rw [List.getElem?_set_self hi] at h; exact (Option.some.inj h).symm
  · rw [List.getElem?_eq_none (by simpa using hi)] at h; cases h
/-- a slot gets a value that is not the body's own, or none -/
theorem Rel.set (r : Rel T H0 O σ H ρ) (i : Nat) {d : D} {v : V} (hd : Den T (Av O σ ρ) H d v) : Rel T H0 O (σ.set i (some v)) H (ρ.set i (some (false, d))) := by
  have hown : ∀ a, OwnA (σ.set i (some v)) (ρ.set i (some (false, d))) a → OwnA σ ρ a := fun a ⟨j, e, h1, h2⟩ => by
    by_cases hj : i = j
    · subst hj; have := get_set_self h1; cases this
    · rw [List.getElem?_set_ne hj] at h1 h2; exact ⟨j, e, h1, h2⟩
  have hav : ∀ a, Av O (σ.set i (some v)) (ρ.set i (some (false, d))) a → Av O σ ρ a := fun a h => h.imp id (hown a)
  refine ⟨r.ex, r.dom, by simp [r.len], fun j e h => ?_, fun j e h => ?_, fun j l e g a h1 h2 h3 h4 => ?_⟩
  · by_cases hj : i = j
    · subst hj
      have e1 := get_set_self h
      cases e1
      have hi : i < σ.length := by
        have := (List.getElem?_eq_some_iff.mp h).1
        rw [← r.len]; simpa using this
      exact ⟨v, List.getElem?_set_self hi, hd.weak hav⟩
    · rw [List.getElem?_set_ne hj] at h
      obtain ⟨w, e1, e2⟩ := r.val j e h
      exact ⟨w, by rw [List.getElem?_set_ne hj]; exact e1, e2.weak hav⟩
  · by_cases hj : i = j
    · subst hj; have := get_set_self h; cases this
    · rw [List.getElem?_set_ne hj] at h
      obtain ⟨a, e1, e2, e3⟩ := r.own j e h
      refine ⟨a, by rw [List.getElem?_set_ne hj]; exact e1, e2, ?_⟩
      cases e with
      | lst ds => obtain ⟨vs, z1, z2⟩ := e3; exact ⟨vs, z1, z2.weak hav⟩
      | ins c fs => obtain ⟨dx, vs, z1, z3, z2⟩ := e3; exact ⟨dx, vs, z1, z3, z2.weak hav⟩
      | dct ks ds => obtain ⟨es, z1, z8, z2, z9⟩ := e3; exact ⟨es, z1, z8, z2.weak hav, z9.weak hav⟩
      | _ => exact e3.elim
  · by_cases hj : i = j
    · subst hj; have := get_set_self h1; cases this
    · by_cases hl : i = l
      · subst hl; have := get_set_self h2; cases this
      · rw [List.getElem?_set_ne hj] at h1 h3
        rw [List.getElem?_set_ne hl] at h2 h4
        exact r.inj j l e g a h1 h2 h3 h4
theorem Rel.wipe1 (r : Rel T H0 O σ H ρ) (i : Nat) : Rel T H0 O (σ.set i none) H (ρ.set i none) := by
  have hown : ∀ a, OwnA (σ.set i none) (ρ.set i none) a → OwnA σ ρ a := fun a ⟨j, e, h1, h2⟩ => by
    by_cases hj : i = j
    · subst hj; have := get_set_self h1; cases this
    · rw [List.getElem?_set_ne hj] at h1 h2; exact ⟨j, e, h1, h2⟩
  have hav : ∀ a, Av O (σ.set i none) (ρ.set i none) a → Av O σ ρ a := fun a h => h.imp id (hown a)
  refine ⟨r.ex, r.dom, by simp [r.len], fun j e h => ?_, fun j e h => ?_, fun j l e g a h1 h2 h3 h4 => ?_⟩
  · by_cases hj : i = j
    · subst hj; have := get_set_self h; cases this
    · rw [List.getElem?_set_ne hj] at h
      obtain ⟨w, e1, e2⟩ := r.val j e h
      exact ⟨w, by rw [List.getElem?_set_ne hj]; exact e1, e2.weak hav⟩
  · by_cases hj : i = j
    · subst hj; have := get_set_self h; cases this
    · rw [List.getElem?_set_ne hj] at h
      obtain ⟨a, e1, e2, e3⟩ := r.own j e h
      refine ⟨a, by rw [List.getElem?_set_ne hj]; exact e1, e2, ?_⟩
      cases e with
      | lst ds => obtain ⟨vs, z1, z2⟩ := e3; exact ⟨vs, z1, z2.weak hav⟩
      | ins c fs => obtain ⟨dx, vs, z1, z3, z2⟩ := e3; exact ⟨dx, vs, z1, z3, z2.weak hav⟩
      | dct ks ds => obtain ⟨es, z1, z8, z2, z9⟩ := e3; exact ⟨es, z1, z8, z2.weak hav, z9.weak hav⟩
      | _ => exact e3.elim
  · by_cases hj : i = j
    · subst hj; have := get_set_self h1; cases this
    · by_cases hl : i = l
      · subst hl; have := get_set_self h2; cases this
      · rw [List.getElem?_set_ne hj] at h1 h3
        rw [List.getElem?_set_ne hl] at h2 h4
        exact r.inj j l e g a h1 h2 h3 h4
def wipeR (ρ : Rho) : List Nat → Rho
  | [] => ρ
  | v :: vs => (wipeR ρ vs).set v none
theorem Rel.wipe (r : Rel T H0 O σ H ρ) : ∀ (vs : List Nat), Rel T H0 O (L2.wipe σ vs) H (wipeR ρ vs)
  | [] => r
  | v :: vs => (r.wipe vs).wipe1 v
theorem wipeR_get {i : Nat} {x : Slot} : ∀ {vs : List Nat}, (wipeR ρ vs)[i]? = some (some x) → ρ[i]? = some (some x) ∧ i ∉ vs
  | [], h => ⟨h, by simp⟩
  | v :: vs, h => by
    unfold wipeR at h
    by_cases hi : v = i
    · subst hi; have := get_set_self h; cases this
    · rw [List.getElem?_set_ne hi] at h
      obtain ⟨h1, h2⟩ := wipeR_get (vs := vs) h
      exact ⟨h1, by simp only [List.mem_cons, not_or]; exact ⟨fun e => hi e.symm, h2⟩⟩
theorem wipeR_len : ∀ (vs : List Nat), (wipeR ρ vs).length = ρ.length
  | [] => rfl
  | v :: vs => by unfold wipeR; rw [List.length_set, wipeR_len vs]
theorem wipe_own {vs : List Nat} {a : Addr} (h : OwnA (L2.wipe σ vs) (wipeR ρ vs) a) : OwnA σ ρ a := by
  obtain ⟨i, d, h1, h2⟩ := h
  exact ⟨i, d, (wipeR_get (vs := vs) h1).1, (wipe_some h2).1⟩
/-- more to avoid: an object that is none of the body's own and that nobody holds -/
theorem Rel.more (r : Rel T H0 O σ H ρ) {p : Addr} {o : HO} (hp : H p = none) : Rel T H0 (fun a => O a ∨ a = p) σ (upd H p o) ρ := by
  have e : Ex H (upd H p o) := Ex.new hp
  have hav : ∀ a, Av (fun a => O a ∨ a = p) σ ρ a → H a ≠ none → Av O σ ρ a := fun a h hn => by
    rcases h with (h | h) | h
    · exact .inl h
    · subst h; exact absurd hp hn
    · exact .inr h
  refine ⟨r.ex.trans e, fun a h => ?_, r.len, fun i d h => ?_, fun i d h => ?_, r.inj⟩
  · rcases h with h | h
    · exact fun z => r.dom a h (Evl.fresh_back e z)
    · subst h; rw [upd_same]; simp
  · obtain ⟨v, h1, h2⟩ := r.val i d h
    exact ⟨v, h1, h2.mono e hav⟩
  · obtain ⟨a, h1, h2, h3⟩ := r.own i d h
    refine ⟨a, h1, ⟨h2.1, fun z => z.elim h2.2 fun z => ?_⟩, ?_⟩
    · subst z; exact h3.some hp
    · cases d with
      | lst ds => obtain ⟨vs, z1, z2⟩ := h3; exact ⟨vs, e _ _ z1, z2.mono e hav⟩
      | ins c fs => obtain ⟨dx, vs, z1, z3, z2⟩ := h3; exact ⟨dx, vs, e _ _ z1, z3, z2.mono e hav⟩
      | dct ks ds => obtain ⟨es, z1, z8, z2, z9⟩ := h3; exact ⟨es, e _ _ z1, z8, z2.mono e hav, z9.mono e hav⟩
      | _ => exact h3.elim
/-- an avoided object changes -/
theorem Rel.updO (r : Rel T H0 O σ H ρ) {p : Addr} {o : HO} (hp : O p) (hm : Mb (H p)) (h0 : H0 p = none) : Rel T H0 O σ (upd H p o) ρ := by
  refine ⟨fun a u h => ?_, fun a h => ?_, r.len, fun i d h => ?_, fun i d h => ?_, r.inj⟩
  · have : a ≠ p := fun z => by subst z; rw [h0] at h; cases h
    rw [upd_ne this]; exact r.ex a u h
  · by_cases z : a = p
    · subst z; rw [upd_same]; simp
    · rw [upd_ne z]; exact r.dom a h
  · obtain ⟨v, h1, h2⟩ := r.val i d h
    exact ⟨v, h1, h2.upd (.inl hp) hm⟩
  · obtain ⟨a, h1, h2, h3⟩ := r.own i d h
    have ne : a ≠ p := fun z => h2.2 (by rw [z]; exact hp)
    refine ⟨a, h1, h2, ?_⟩
    cases d with
    | lst ds => obtain ⟨vs, z1, z2⟩ := h3; exact ⟨vs, by rw [upd_ne ne]; exact z1, z2.upd (.inl hp) hm⟩
    | ins c fs => obtain ⟨dx, vs, z1, z3, z2⟩ := h3; exact ⟨dx, vs, by rw [upd_ne ne]; exact z1, z3, z2.upd (.inl hp) hm⟩
    | dct ks ds => obtain ⟨es, z1, z8, z2, z9⟩ := h3; exact ⟨es, by rw [upd_ne ne]; exact z1, z8, z2.upd (.inl hp) hm, z9.upd (.inl hp) hm⟩
    | _ => exact h3.elim
/-- avoid less -/
theorem Rel.less {O' : AP} (r : Rel T H0 O σ H ρ) (h : ∀ a, O' a → O a) : Rel T H0 O' σ H ρ := by
  have hav : ∀ a, Av O' σ ρ a → Av O σ ρ a := fun a z => z.imp (h a) id
  refine ⟨r.ex, fun a z => r.dom a (h a z), r.len, fun i d e => ?_, fun i d e => ?_, r.inj⟩
  · obtain ⟨v, h1, h2⟩ := r.val i d e
    exact ⟨v, h1, h2.weak hav⟩
  · obtain ⟨a, h1, h2, h3⟩ := r.own i d e
    refine ⟨a, h1, ⟨h2.1, fun z => h2.2 (h a z)⟩, ?_⟩
    cases d with
    | lst ds => obtain ⟨vs, z1, z2⟩ := h3; exact ⟨vs, z1, z2.weak hav⟩
    | ins c fs => obtain ⟨dx, vs, z1, z3, z2⟩ := h3; exact ⟨dx, vs, z1, z3, z2.weak hav⟩
    | dct ks ds => obtain ⟨es, z1, z8, z2, z9⟩ := h3; exact ⟨es, z1, z8, z2.weak hav, z9.weak hav⟩
    | _ => exact h3.elim

/-! ### targets: a name, or names in a tuple -/
inductive Tg where
  | n (i : Nat) | t (is : List Nat)
def setAll (ρ : Rho) : List Nat → List D → Option Rho
  | [], [] => some ρ
  | i :: is, d :: ds => setAll (ρ.set i (some (false, d))) is ds
  | _, _ => none
def Tg.bind : Tg → D → Rho → Option Rho
  | .n i, d, ρ => some (ρ.set i (some (false, d)))
  | .t is, .tup ds, ρ => setAll ρ is ds
  | .t is, _, _ => none
def Tg.slots : Tg → List Nat
  | .n i => [i]
  | .t is => is
def setAllV (σ : L2.St) : List Nat → List V → L2.St
  | i :: is, v :: vs => setAllV (σ.set i (some v)) is vs
  | _, _ => σ
/-- a target that stores as Tg says -/
def tG (T : Tb) (tg : Tg) : TG := fun v σ H Q => ∃ H0 O ρ ρ' d, Rel T H0 O σ H ρ ∧ Den T (Av O σ ρ) H d v ∧ tg.bind d ρ = some ρ' ∧ ∀ σ', (∀ vs, (∀ i ∈ tg.slots, i ∈ vs) → L2.wipe σ' vs = L2.wipe σ vs) → Rel T H0 O σ' H ρ' → Q σ' H
theorem wipe_set {σ : L2.St} {i : Nat} {x : Option V} : ∀ {vs : List Nat}, i ∈ vs → L2.wipe (σ.set i x) vs = L2.wipe σ vs
  | [], h => by simp at h
  | v :: vs, h => by
    unfold L2.wipe
    by_cases hi : i ∈ vs
    · rw [wipe_set hi]
    · have : i = v := by
        rcases List.mem_cons.mp h with h | h
        · exact h
        · exact absurd h hi
      subst this
      rw [wipe_comm hi]
      simp
  where wipe_comm {σ : L2.St} {i : Nat} {x : Option V} : ∀ {vs : List Nat}, i ∉ vs → L2.wipe (σ.set i x) vs = (L2.wipe σ vs).set i x
    | [], _ => rfl
    | v :: vs, h => by
      simp only [List.mem_cons, not_or] at h
      unfold L2.wipe
      rw [wipe_comm h.2, List.set_comm _ _ h.1]
theorem pg_imp {tg : Expr} {t t' : TG} (h : PG X tg t) (i : ∀ v σ H Q, t' v σ H Q → t v σ H Q) : PG X tg t' := ⟨fun pins s σ H v u Q I r q => h.run pins s σ H v u Q I r (i v σ H Q q)⟩
theorem bg_name {i : Nat} {x : Str} {pos : Pos} (C : Cok T N sc W k fb X) (hi : N[i]? = some x) (hx : Loc sc x) (hf : X.fn x = true ∨ sc.names.lookup x = some .local) : PG X (.Name x pos) (tG T (.n i)) :=
  pg_imp (pg_name (i := i) (by rw [C.hN]; exact C.nd) (by rw [C.hN]; exact hi) (by rw [C.hsc]; exact hx) (by rw [C.hsc]; exact hf)) fun v σ H Q ⟨H0, O, ρ, ρ', d, r, hd, hb, q⟩ => by
    cases hb
    exact q _ (fun vs hv => wipe_set (hv i (by simp [Tg.slots]))) (r.set i hd)
/-- names in a tuple -/
theorem Rel.setAll : ∀ {is : List Nat} {ds : List D} {vs : List V} {σ : L2.St} {ρ ρ' : Rho}, Rel T H0 O σ H ρ → Dens T (Av O σ ρ) H ds vs → setAll ρ is ds = some ρ' → Rel T H0 O (setAllV σ is vs) H ρ' ∧ ∀ ws, (∀ i ∈ is, i ∈ ws) → L2.wipe (setAllV σ is vs) ws = L2.wipe σ ws
  | [], [], _, _, _, _, r, hd, e => by
    simp only [BV.setAll, Option.some.injEq] at e
    subst e
    simp only [Dens] at hd
    subst hd
    exact ⟨r, fun _ _ => rfl⟩
  | i :: is, d :: ds, _, σ, ρ, _, r, hd, e => by
    simp only [Dens] at hd
    obtain ⟨v, vs, rfl, h1, h2⟩ := hd
    simp only [BV.setAll] at e
    have r1 := r.set i h1
    have hav : ∀ a, Av O (σ.set i (some v)) (ρ.set i (some (false, d))) a → Av O σ ρ a := fun a h => h.imp id fun ⟨j, e', h1, h2⟩ => by
      by_cases hj : i = j
      · subst hj; have := get_set_self h1; cases this
      · rw [List.getElem?_set_ne hj] at h1 h2; exact ⟨j, e', h1, h2⟩
    obtain ⟨r2, w2⟩ := r1.setAll (h2.weak hav) e
    refine ⟨r2, fun ws hw => ?_⟩
    show L2.wipe (setAllV (σ.set i (some v)) is vs) ws = _
    rw [w2 ws fun j hj => hw j (List.mem_cons_of_mem _ hj), wipe_set (hw i (List.mem_cons_self ..))]
  | [], _ :: _, _, _, _, _, _, _, e => by simp [BV.setAll] at e
  | _ :: _, [], _, _, _, _, _, _, e => by simp [BV.setAll] at e
theorem setAll_len : ∀ {is : List Nat} {ds : List D} {ρ ρ' : Rho}, BV.setAll ρ is ds = some ρ' → is.length = ds.length
  | [], [], _, _, _ => rfl
  | _ :: is, _ :: ds, _, _, h => by simp only [BV.setAll] at h; simp [setAll_len h]
  | [], _ :: _, _, _, h => by simp [BV.setAll] at h
  | _ :: _, [], _, _, h => by simp [BV.setAll] at h
def gAll (is : List Nat) : TGs := fun vs σ H Q => vs.length = is.length ∧ Q (setAllV σ is vs) H
def isName : Expr → Bool
  | .Name .. => true
  | _ => false
theorem ae_cons {e : Expr} {es : List Expr} {env : Env} (h : isStar e = false) : assignEach (e :: es) env = (false, assign e env) :: assignEach es env := by
  cases e <;> first | rfl | (simp [isStar] at h)
theorem ae_facts {env : Env} : ∀ {es : List Expr}, noStar es = true → (assignEach es env).length = es.length ∧ (assignEach es env).findIdx? (·.1) = none
  | [], _ => ⟨rfl, rfl⟩
  | e :: es, h => by
    simp only [noStar, List.all_cons, Bool.and_eq_true, Bool.not_eq_true'] at h
    obtain ⟨a, b⟩ := ae_facts (env := env) (es := es) h.2
    rw [ae_cons h.1]
    refine ⟨by simp [a], ?_⟩
    rw [List.findIdx?_cons, b]
    rfl
theorem bgs_names {es : List Expr} {is : List Nat} (C : Cok T N sc W k fb X) (hl : es.length = is.length) (h : ∀ (j : Nat) e i, es[j]? = some e → is[j]? = some i → PG X e (gName i)) (hs : noStar es = true) : PGs X es (gAll is) := by
  induction es generalizing is with
  | nil =>
    cases is with
    | nil => exact ⟨fun pins s σ H vs us Q I r q => pgs_nil.run pins s σ H vs us Q I r ⟨List.eq_nil_of_length_eq_zero q.1, by have := List.eq_nil_of_length_eq_zero q.1; subst this; exact q.2⟩⟩
    | cons i is => simp at hl
  | cons e es ih =>
    cases is with
    | nil => simp at hl
    | cons i is =>
      simp only [noStar, List.all_cons, Bool.and_eq_true, Bool.not_eq_true'] at hs
      have h2 := ih (is := is) (by simpa using hl) (fun j e i e1 e2 => h (j + 1) e i (by simpa using e1) (by simpa using e2)) hs.2
      refine ⟨fun pins s σ H vs us Q I r q => (pgs_cons (h 0 e i rfl rfl) h2 (by rw [ae_cons hs.1]; rfl)).run pins s σ H vs us Q I r ?_⟩
      cases vs with
      | nil => exact nomatch q.1
      | cons v vs => exact ⟨v, vs, rfl, by simpa using q.1, q.2⟩
theorem bg_tup {es : List Expr} {is : List Nat} {kk : Nat} {pos : Pos} (C : Cok T N sc W k fb X) (hl : es.length = is.length) (h : ∀ (j : Nat) e i, es[j]? = some e → is[j]? = some i → PG X e (gName i)) (hs : noStar es = true) : PG X (.Tuple es kk pos) (tG T (.t is)) := by
  obtain ⟨f1, f2⟩ := ae_facts (env := X.env) hs
  refine pg_imp (pg_tup C.calm (bgs_names C hl h hs) f1 f2) fun v σ H Q ⟨H0, O, ρ, ρ', d, r, hd, hb, q⟩ => ?_
  cases d with
  | tup ds =>
    simp only [Den] at hd
    obtain ⟨a, vs, rfl, h1, h2⟩ := hd
    have hb : BV.setAll ρ is ds = some ρ' := hb
    obtain ⟨r2, w2⟩ := r.setAll h2 hb
    have hlen : is.length = ds.length := setAll_len hb
    exact ⟨a, vs, rfl, by rw [C.hK]; exact h1, by rw [h2.length, hl, hlen], by rw [h2.length, hlen], q _ w2 r2⟩
  | _ => exact nomatch hb
/-! ### list comprehensions -/
abbrev WF : WX := fun _ _ _ _ => False
def lcGo (bind : D → Rho → Option Rho) (cond : Rho → R Bool) (elt : Rho → R D) (ρ : Rho) : List D → R (List D)
  | [] => .ok []
  | d :: ds => match bind d ρ with
    | some ρ' => (match cond ρ' with
      | .ok true => (match elt ρ' with
        | .ok x => (match lcGo bind cond elt ρ ds with | .ok xs => .ok (x :: xs) | _ => .stuck)
        | _ => .stuck)
      | .ok false => lcGo bind cond elt ρ ds
      | _ => .stuck)
    | none => .stuck
theorem lcGo_len {bind : D → Rho → Option Rho} {cond : Rho → R Bool} {elt : Rho → R D} {ρ : Rho} : ∀ {ds xs : List D}, lcGo bind cond elt ρ ds = .ok xs → xs.length ≤ ds.length
  | [], xs, h => by simp only [lcGo, R.ok.injEq] at h; subst h; simp
  | d :: ds, xs, h => by
    simp only [lcGo] at h
    split at h
    · split at h
      · split at h
        · split at h
          · rename_i q; cases h; have := lcGo_len q; simp; omega
          · cases h
        · cases h
      · have := lcGo_len h; simp; omega
      · cases h
    · cases h
def lcF (tg : Tg) (vs : List Nat) (cond : Rho → R Bool) (elt : Rho → R D) (items : Rho → R (List D)) : Rho → R D := fun ρ => (items ρ).bind fun ds => if ds.length ≤ sizeLine then
  (match lcGo tg.bind cond elt (wipeR ρ vs) ds with | .ok xs => .ok (.lst xs) | _ => .stuck) else .stuck
/-- the new list, and that it is new -/
def NewL (T : Tb) (A : AP) (H : Hp) (ds : List D) (v : V) (H' : Hp) : Prop := ∃ p vs, v = .ref p ∧ H p = none ∧ H' p = some (.lst vs) ∧ Dens T (fun a => A a ∨ a = p) H' ds vs
theorem NewL.den {ds : List D} {v : V} (n : NewL T A H ds v H') (hd : ∀ a, A a → H a ≠ none) : Den T A H' (.lst ds) v := by
  obtain ⟨p, vs, rfl, h1, h2, h3⟩ := n
  simp only [Den]
  exact ⟨p, vs, rfl, h2, fun z => hd p z h1, h3.weak fun a z => .inl z⟩
theorem wipe_idem {σ : L2.St} : ∀ {ws vs : List Nat}, (∀ i ∈ ws, i ∈ vs) → L2.wipe (L2.wipe σ ws) vs = L2.wipe σ vs
  | [], _, _ => rfl
  | w :: ws, vs, h => by
    show L2.wipe ((L2.wipe σ ws).set w none) vs = _
    rw [wipe_set (h w (List.mem_cons_self ..)), wipe_idem fun i hi => h i (List.mem_cons_of_mem _ hi)]
theorem setAll_get : ∀ {is : List Nat} {ds : List D} {ρ ρ' : Rho} {i : Nat}, BV.setAll ρ is ds = some ρ' → i ∉ is → ρ'[i]? = ρ[i]?
  | [], [], _, _, _, h, _ => by simp only [BV.setAll, Option.some.injEq] at h; rw [h]
  | j :: is, d :: ds, ρ, ρ', i, h, hi => by
    simp only [BV.setAll] at h
    simp only [List.mem_cons, not_or] at hi
    rw [setAll_get h hi.2, List.getElem?_set_ne (Ne.symm hi.1)]
  | [], _ :: _, _, _, _, h, _ => by simp [BV.setAll] at h
  | _ :: _, [], _, _, _, h, _ => by simp [BV.setAll] at h
theorem Tg.get {tg : Tg} {d : D} {ρ ρ' : Rho} {i : Nat} (h : tg.bind d ρ = some ρ') (hi : i ∉ tg.slots) : ρ'[i]? = ρ[i]? := by
  cases tg with
  | n j =>
    simp only [Tg.bind, Option.some.injEq] at h
    subst h
    exact List.getElem?_set_ne fun e => hi (by simp [Tg.slots, e])
  | t is =>
    cases d with
    | tup ds => exact setAll_get (show BV.setAll ρ is ds = some ρ' from h) hi
    | _ => exact nomatch h
theorem Tg.own {tg : Tg} {d : D} {ρ ρ' : Rho} {σ' : L2.St} {vs : List Nat} (h : tg.bind d (wipeR ρ vs) = some ρ') (hs : ∀ i ∈ tg.slots, i ∈ vs) (hw : L2.wipe σ' vs = L2.wipe (L2.wipe σ vs) vs) {a : Addr} (ho : OwnA (L2.wipe σ vs) (wipeR ρ vs) a) : OwnA σ' ρ' a := by
  obtain ⟨i, e, h1, h2⟩ := ho
  have hi : i ∉ vs := (wipeR_get h1).2
  refine ⟨i, e, by rw [Tg.get h fun z => hi (hs i z)]; exact h1, ?_⟩
  rw [← wipe_out (σ := σ') hi, hw, wipe_out hi]
  exact h2
theorem Rel.block (r : Rel T H0 O σ H ρ) {D : Addr} (hD : H D = none) (vs : List Nat) :
    Rel T (Fz σ ρ H) (fun a => O a ∨ a = D ∨ (OwnA σ ρ a ∧ ¬ OwnA (L2.wipe σ vs) (wipeR ρ vs) a)) (L2.wipe σ vs) (upd H D (.lst [])) (wipeR ρ vs) := by
  have e : Ex H (upd H D (.lst [])) := Ex.new hD
  have hav : ∀ a, Av (fun a => O a ∨ a = D ∨ (OwnA σ ρ a ∧ ¬ OwnA (L2.wipe σ vs) (wipeR ρ vs) a)) (L2.wipe σ vs) (wipeR ρ vs) a → H a ≠ none → Av O σ ρ a := fun a h hn => by
    rcases h with (h | h | h) | h
    · exact .inl h
    · subst h; exact absurd hD hn
    · exact .inr h.1
    · exact .inr (wipe_own h)
  refine ⟨Fz.ex.trans e, fun a h => ?_, by rw [wipeR_len, wipe_length]; exact r.len, fun i d h => ?_, fun i d h => ?_, fun i j d g a h1 h2 h3 h4 => ?_⟩
  · rcases h with h | h | h
    · exact fun z => r.dom a h (Evl.fresh_back e z)
    · subst h; rw [upd_same]; simp
    · exact fun z => r.avdom a (.inr h.1) (Evl.fresh_back e z)
  · obtain ⟨h1, h2⟩ := wipeR_get h
    obtain ⟨v, h3, h4⟩ := r.val i d h1
    exact ⟨v, by rw [wipe_out h2]; exact h3, h4.mono e hav⟩
  · obtain ⟨h1, h2⟩ := wipeR_get h
    obtain ⟨a, h3, h4, h5⟩ := r.own i d h1
    have ho : OwnA σ ρ a := ⟨i, d, h1, h3⟩
    have h3' : (L2.wipe σ vs)[i]? = some (some (.ref a)) := by rw [wipe_out h2]; exact h3
    refine ⟨a, h3', ⟨by unfold Fz; rw [if_pos ho], fun z => ?_⟩, ?_⟩
    · rcases z with z | z | z
      · exact h4.2 z
      · subst z; exact h5.some hD
      · exact z.2 ⟨i, d, h, h3'⟩
    · cases d with
      | lst ds => obtain ⟨vs, z1, z2⟩ := h5; exact ⟨vs, e _ _ z1, z2.mono e hav⟩
      | ins c fs => obtain ⟨dx, vs, z1, z3, z2⟩ := h5; exact ⟨dx, vs, e _ _ z1, z3, z2.mono e hav⟩
      | dct ks ds => obtain ⟨es, z1, z8, z2, z9⟩ := h5; exact ⟨es, e _ _ z1, z8, z2.mono e hav, z9.mono e hav⟩
      | _ => exact h5.elim
  · exact r.inj i j d g a (wipeR_get h1).1 (wipeR_get h2).1 (wipe_some h3).1 (wipe_some h4).1
/-- what a comprehension's items must bring about -/
def LcP (T : Tb) (W : WX) (A : AP) (σ : L2.St) (H : Hp) (go : List D → R (List D)) (Q' : VK) : R (List D) → Prop
  | .ok ds => ds.length ≤ sizeLine ∧ ∃ xs, go ds = .ok xs ∧ ∀ H1, Ex H H1 → ∀ v H2, Ex H1 H2 → NewL T A H1 xs v H2 → Q' v H2
  | .err c fs => ∀ x H', Ex H H' → ErrDen T A H' c fs x → W (.ref (T.cls c)) x σ H'
  | .stuck => False
  | .any k => ∀ i, LcP T W A σ H go Q' (k i)
/-- the reading of a comprehension -/
theorem tLc_of {tg : Tg} {vs : List Nat} {cond : Rho → R Bool} {elt : Rho → R D} {items : Rho → R (List D)} (hsl : ∀ i ∈ tg.slots, i ∈ vs) (r : Rel T H0 O σ H ρ) {Q' : VK}
    (h : LcP T W (Av O σ ρ) σ H (lcGo tg.bind cond elt (wipeR ρ vs)) Q' (items ρ)) :
    tLc (tI T W items) (tG T tg) (tBT T WF cond) (tB T WF elt) vs σ H Q' := by
  refine ⟨H0, O, ρ, r, ?_⟩
  generalize items ρ = r0 at h ⊢
  induction r0 with
  | stuck => exact h
  | err c fs => exact h
  | any k0 ih => exact fun i => ih i (h i)
  | ok ds =>
    obtain ⟨hz, xs, hx, p⟩ := h
    intro J H1 e1 wk D hD
    have r1 := r.mono e1
    have rD := r1.block hD vs
    have hDf : Fz σ ρ H1 D = none := Evl.fresh_back Fz.ex hD
    -- what the block avoids: O, the new list, all own objects
    have hA : ∀ a, (Av O σ ρ a ∨ a = D) → Av (fun a => O a ∨ a = D ∨ (OwnA σ ρ a ∧ ¬ OwnA (L2.wipe σ vs) (wipeR ρ vs) a)) (L2.wipe σ vs) (wipeR ρ vs) a := fun a z => by
      rcases z with (z | z) | z
      · exact .inl (.inl z)
      · by_cases q : OwnA (L2.wipe σ vs) (wipeR ρ vs) a
        · exact .inr q
        · exact .inl (.inr (.inr ⟨z, q⟩))
      · exact .inl (.inr (.inl z))
    refine ⟨fun i m H => m = ds.length - i ∧ i ≤ ds.length ∧ ∃ done rest acc, xs = done ++ rest ∧ lcGo tg.bind cond elt (wipeR ρ vs) (ds.drop i) = .ok rest ∧ done.length ≤ i ∧
        Rel T (Fz σ ρ H1) (fun a => O a ∨ a = D ∨ (OwnA σ ρ a ∧ ¬ OwnA (L2.wipe σ vs) (wipeR ρ vs) a)) (L2.wipe σ vs) H (wipeR ρ vs) ∧ H D = some (.lst acc) ∧ Dens T (fun a => Av O σ ρ a ∨ a = D) H done acc ∧ (∀ a o, H1 a = some o → H a = some o),
      ⟨ds.length, by simp, Nat.zero_le _, [], xs, [], rfl, by simpa using hx, Nat.le_refl _, rD, upd_same, .nil, fun a o h => by rw [upd_ne (ne_of_none h hD)]; exact h⟩, ?_⟩
    rintro i m H ⟨rfl, hi, done, rest, acc, ex, el, hdn, rr, hDa, hda, hk⟩
    obtain ⟨wstop, wgo⟩ := wk H rr.ex
    by_cases hlt : i < ds.length
    · obtain ⟨d, ed⟩ : ∃ d, ds[i]? = some d := ⟨ds[i], List.getElem?_eq_getElem hlt⟩
      obtain ⟨hgo, hyld⟩ := wgo i d ed
      have edr : ds.drop i = d :: ds.drop (i + 1) := by
        rw [List.drop_eq_getElem_cons hlt]
        have := (List.getElem?_eq_some_iff.mp ed).2
        rw [this]
      rw [edr] at el
      simp only [lcGo] at el
      refine .inr ⟨hgo, fun H' => ∃ done rest acc, xs = done ++ rest ∧ lcGo tg.bind cond elt (wipeR ρ vs) (ds.drop (i + 1)) = .ok rest ∧ done.length ≤ i + 1 ∧
        Rel T (Fz σ ρ H1) (fun a => O a ∨ a = D ∨ (OwnA σ ρ a ∧ ¬ OwnA (L2.wipe σ vs) (wipeR ρ vs) a)) (L2.wipe σ vs) H' (wipeR ρ vs) ∧ H' D = some (.lst acc) ∧ Dens T (fun a => Av O σ ρ a ∨ a = D) H' done acc ∧ (∀ a o, H1 a = some o → H' a = some o),
        fun H' z => ⟨ds.length - (i + 1), by omega, rfl, hlt, z⟩, fun x H2 y => ?_⟩
      obtain ⟨e2, hdx⟩ := hyld x H2 y
      have r2 := rr.mono e2
      have hdx' : Den T (Av (fun a => O a ∨ a = D ∨ (OwnA σ ρ a ∧ ¬ OwnA (L2.wipe σ vs) (wipeR ρ vs) a)) (L2.wipe σ vs) (wipeR ρ vs)) H2 d x := hdx.weak fun a z => by
        rcases z with (z | z | z) | z
        · exact .inl z
        · subst z; exact .inr hDf
        · refine .inr ?_; unfold Fz; rw [if_pos z.1]
        · refine .inr ?_; unfold Fz; rw [if_pos (wipe_own z)]
      have hDa2 := e2 _ _ hDa
      have hda2 := hda.ex e2
      have hk2 : ∀ a o, H1 a = some o → H2 a = some o := fun a o h => e2 _ _ (hk a o h)
      split at el
      · rename_i ρ' eb
        refine ⟨_, _, _, ρ', d, r2, hdx', eb, fun σ' hw r3 => ⟨(hw vs hsl).trans (wipe_idem fun _ z => z), ?_⟩⟩
        have hA2 : ∀ a, (Av O σ ρ a ∨ a = D) → Av (fun a => O a ∨ a = D ∨ (OwnA σ ρ a ∧ ¬ OwnA (L2.wipe σ vs) (wipeR ρ vs) a)) σ' ρ' a := fun a z => (hA a z).imp id fun q => Tg.own eb hsl (hw vs hsl) q
        split at el
        · rename_i ec
          refine ⟨_, _, ρ', r3, ?_⟩
          rw [ec]
          intro H3 e3
          rw [if_pos rfl]
          split at el
          · rename_i z ez
            split at el
            · rename_i zs ezs
              cases el
              refine ⟨_, _, ρ', r3.mono e3, ?_⟩
              rw [ez]
              intro yv H4 e4 hyd
              have hD4 := e4 _ _ (e3 _ _ hDa2)
              have hlen := hda.length
              refine ⟨acc, hD4, by have : sizeLine ≥ ds.length := hz; omega, done ++ [z], zs, acc ++ [yv], by simp [ex], ezs, by simp; omega, ?_, upd_same, ?_, ?_⟩
              · exact ((r2.mono e3).mono e4).updO (.inr (.inl rfl)) (by rw [hD4]; trivial) hDf
              · have hm : Mb (H4 D) := by rw [hD4]; trivial
                have h1 := (hda2.ex e3).ex e4
                exact (h1.append (.cons (hyd.weak hA2) .nil)).upd (.inr rfl) hm
              · intro a o h
                have : a ≠ D := ne_of_none h hD
                rw [upd_ne this]
                exact e4 _ _ (e3 _ _ (hk2 a o h))
            · cases el
          · cases el
        · rename_i ec
          refine ⟨_, _, ρ', r3, ?_⟩
          rw [ec]
          intro H3 e3
          rw [if_neg Bool.false_ne_true]
          exact ⟨done, rest, acc, ex, el, by omega, r2.mono e3, e3 _ _ hDa2, hda2.ex e3, fun a o h => e3 _ _ (hk2 a o h)⟩
        · cases el
      · cases el
    · have e : i = ds.length := by omega
      subst e
      refine .inl ⟨wstop, ?_⟩
      rw [List.drop_length] at el
      simp only [lcGo, R.ok.injEq] at el
      subst el
      rw [List.append_nil] at ex
      subst ex
      exact p H1 e1 _ H hk ⟨D, acc, rfl, hD, hDa, hda⟩
theorem rel_relabel {scope : Scope} {env : Env} : relabel scope env = relS scope env.scope := rfl
theorem Cok.blk (C : Cok T N sc W k fb X) (s : Shared) (H : Hp) (scope : Scope) (cl : List (Str × Addr)) (Ca : Addr) (fp : List Addr) : Cok T N (relS scope sc) WF k false (X.blk s H scope (compEnvC scope cl Ca X.env) fp) where
  hP := C.hP
  hw := C.hw
  hmg := C.hmg
  hbase := C.hbase
  hfn := fun z => nomatch z
  hK := C.hK
  nd := C.nd
  hN := C.hN
  hsc := by show relabel scope X.env = _; rw [rel_relabel, C.hsc]
  calm := C.calm
  tk := takes0
  room := C.room
variable {elt iter tge : Expr} {ifs : List Expr} {scope : Scope} {own : List (Str × Nat)} {tg : Tg} {vs : List Nat} {cond : Rho → R Bool} {eltF : Rho → R D} {items : Rho → R (List D)} {pos : Pos}
/-- what a comprehension's value must bring about -/
theorem lc_reads (hsl : ∀ i ∈ tg.slots, i ∈ vs) {Q : VK} (r : Rel T H0 O σ H ρ) (p : Post T W (Av O σ ρ) σ H (lcF tg vs cond eltF items ρ) Q) : tLc (tI T W items) (tG T tg) (tBT T WF cond) (tB T WF eltF) vs σ H Q := by
  unfold lcF at p
  refine tLc_of hsl r ?_
  generalize items ρ = r0 at p ⊢
  induction r0 with
  | err c fs => exact p
  | stuck => exact p
  | any k0 ih => exact fun i => ih i (p i)
  | ok ds =>
    simp only [R.bind] at p
    split at p
    · rename_i hz
      refine ⟨hz, ?_⟩
      cases q : lcGo tg.bind cond eltF (wipeR ρ vs) ds with
      | ok xs =>
        rw [q] at p
        exact ⟨xs, rfl, fun H1 e1 v H2 e2 hn => p v H2 (e1.trans e2) (hn.den (r.mono e1).avdom)⟩
      | _ => rw [q] at p; exact p.elim
    · exact p.elim
theorem be_lc (C : Cok T N sc W k fb X) (hi : PI X tge iter (tI T W items)) (ok : BlkOk N sc scope own) (hvs : own.map (·.2) = vs) (hsl : ∀ i ∈ tg.slots, i ∈ vs)
    (hg : ∀ X', Cok T N (relS scope sc) WF k false X' → PG X' tge (tG T tg)) (ht : ∀ X', Cok T N (relS scope sc) WF k false X' → PTs X' ifs (tBT T WF cond)) (he : ∀ X', Cok T N (relS scope sc) WF k false X' → PE X' elt (tB T WF eltF))
    (hs : ∀ x, foldedSetIterable iter X.env x = pure x) : PE X (.ListComp elt [⟨tge, iter, ifs, 0⟩] scope pos) (tB T W (lcF tg vs cond eltF items)) := by
  subst hvs
  refine pe_imp (pe_lc (own := own) C.calm (by rw [C.hN]; exact C.nd) hi (by rw [C.hN, C.hsc]; exact ok) (fun s H Ca cl fp => hg _ (C.blk s H scope cl Ca fp)) (fun s H Ca cl fp => ht _ (C.blk s H scope cl Ca fp)) (fun s H Ca cl fp => he _ (C.blk s H scope cl Ca fp)) hs) fun σ H Q ⟨H0, O, ρ, r, p⟩ => lc_reads hsl r p
end
theorem force_lcGo : True := by
  have h1 := @lcGo.eq_def
  have h2 := @lcGo.eq_1
  trivial
theorem force_LcP : True := by
  have h1 := @LcP.eq_def
  have h2 := @LcP.eq_1
  trivial
end BV
set_option Elab.async false
set_option linter.all false
set_option maxRecDepth 100000
set_option maxHeartbeats 1000000
namespace BV
open PySem L2 PySem.Spec PyProof.Rows
open Evl (Ex)

/-- how a statement ends -/
inductive Out where
  | nx (ρ : Rho) | rt (d : D) | bk (ρ : Rho) | ct (ρ : Rho) | err (c : Nat) (fs : List D) (ρ : Rho) | stuck | any (k : Int → Out)
def PostS (T : Tb) (W : WX) (H0 : Hp) (O : AP) (o : Out) (De : Ends) : Prop := match o with
  | .nx ρ => ∀ σ H, Rel T H0 O σ H ρ → De.nx σ H
  | .rt d => ∀ v H, Ex H0 H → (∀ a, O a → H a ≠ none) → Den T O H d v → De.rt v H
  | .bk ρ => ∀ σ H, Rel T H0 O σ H ρ → De.bk σ H
  | .ct ρ => ∀ σ H, Rel T H0 O σ H ρ → De.ct σ H
  | .err c fs ρ => ∀ x σ H, Rel T H0 O σ H ρ → ErrDen T (Av O σ ρ) H c fs x → W (.ref (T.cls c)) x σ H
  | .stuck => False
  | .any k => ∀ i, PostS T W H0 O (k i) De
def tS (T : Tb) (W : WX) (F : Rho → Out) : TS := fun De σ H => ∃ H0 O ρ, Rel T H0 O σ H ρ ∧ PostS T W H0 O (F ρ) De
/-- the context of a statement -/
structure Sok (T : Tb) (N : List Str) (sc : Scope) (W : WX) (k : Nat) (X : Cx) : Prop where
  C : Cok T N sc W k true X
  po : PassesOwn (model X.prog X.w) X.A X.env X.xe
  hs : X.stack = X.env :: X.outer
  hf : X.env.frame = some X.env.locals
def ofR (r : R D) (ρ : Rho) (k : D → Out) : Out := match r with
  | .ok d => k d
  | .err c fs => .err c fs ρ
  | .stuck => .stuck
  | .any q => .any fun i => ofR (q i) ρ k
def ofT (r : R Bool) (ρ : Rho) (k : Bool → Out) : Out := match r with
  | .ok d => k d
  | .err c fs => .err c fs ρ
  | .stuck => .stuck
  | .any q => .any fun i => ofT (q i) ρ k
def seqO (o : Out) (k : Rho → Out) : Out := match o with
  | .nx ρ => k ρ
  | .rt d => .rt d
  | .bk ρ => .bk ρ
  | .ct ρ => .ct ρ
  | .err c fs ρ => .err c fs ρ
  | .stuck => .stuck
  | .any q => .any fun i => seqO (q i) k
section
variable {T : Tb} {N : List Str} {sc : Scope} {W : WX} {k : Nat} {X : Cx} {O A : AP} {H0 H H' : Hp} {σ : L2.St} {ρ : Rho} {De : Ends} {pos : Pos} {st : Stmt} {sts : List Stmt} {F G : Rho → Out} {f g : Rho → R D} {t : Rho → R Bool} {e : Expr}
theorem PostS.base {Hb : Hp} {o : Out} (h : PostS T W H0 O o De) (e : Ex H0 Hb) : PostS T W Hb O o De := by
  induction o with
  | nx ρ => exact fun σ H r => h σ H (r.unbase e)
  | rt d => exact fun v H x => h v H (e.trans x)
  | bk ρ => exact fun σ H r => h σ H (r.unbase e)
  | ct ρ => exact fun σ H r => h σ H (r.unbase e)
  | err c fs ρ => exact fun x σ H r => h x σ H (r.unbase e)
  | stuck => exact h
  | any k ih => exact fun i => ih i (h i)
theorem bs_nil : PSs X [] (tS T W .nx) := pss_imp pss_nil fun D σ H ⟨H0, O, ρ, r, p⟩ => p σ H r
theorem bs_cons (h1 : PS X st (tS T W F)) (h2 : PSs X sts (tS T W G)) : PSs X (st :: sts) (tS T W fun ρ => seqO (F ρ) G) :=
  pss_imp (pss_cons h1 h2) fun D σ H ⟨H0, O, ρ, r, p⟩ => by
    refine ⟨H0, O, ρ, r, ?_⟩
    dsimp only at p
    generalize F ρ = o at p ⊢
    induction o with
    | nx ρ' => exact fun σ' H' r' => ⟨H0, O, ρ', r', p⟩
    | rt d => exact p
    | bk ρ' => exact p
    | ct ρ' => exact p
    | err c fs ρ' => exact p
    | stuck => exact p
    | any k ih => exact fun i => ih i (p i)
/-- from a statement's end to an expression's -/
theorem tB.stmt {K' : VK} {k : D → Out} (r : Rel T H0 O σ H ρ) (p : PostS T W H0 O (ofR (f ρ) ρ k) De) (q : ∀ d v H1, Ex H H1 → Rel T H0 O σ H1 ρ → Den T (Av O σ ρ) H1 d v → PostS T W H0 O (k d) De → K' v H1) : tB T W f σ H K' := by
  refine ⟨H0, O, ρ, r, ?_⟩
  generalize f ρ = r0 at p ⊢
  induction r0 with
  | ok d => exact fun v H1 e1 hd => q d v H1 e1 (r.mono e1) hd p
  | err c fs => exact fun x H1 e1 hd => p x σ H1 (r.mono e1) hd
  | stuck => exact p
  | any k0 ih => exact fun i => ih i (p i)
theorem tP.stmt {K' : VK} {k : D → Out} (r : Rel T H0 O σ H ρ) (p : PostS T W H0 O (ofR (f ρ) ρ k) De) (q : ∀ d v H1, Ex H H1 → Rel T H0 O σ H1 ρ → SDen T O (Av O σ ρ) H1 d v → PostS T W H0 O (k d) De → K' v H1) : tP T W f σ H K' := by
  refine ⟨H0, O, ρ, r, ?_⟩
  generalize f ρ = r0 at p ⊢
  induction r0 with
  | ok d => exact fun v H1 e1 hd => q d v H1 e1 (r.mono e1) hd p
  | err c fs => exact fun x H1 e1 hd => p x σ H1 (r.mono e1) hd
  | stuck => exact p
  | any k0 ih => exact fun i => ih i (p i)
theorem tBT.stmt {K' : Bool → Hp → Prop} {k : Bool → Out} (r : Rel T H0 O σ H ρ) (p : PostS T W H0 O (ofT (t ρ) ρ k) De) (q : ∀ b H1, Ex H H1 → Rel T H0 O σ H1 ρ → PostS T W H0 O (k b) De → K' b H1) : tBT T W t σ H K' := by
  refine ⟨H0, O, ρ, r, ?_⟩
  generalize t ρ = r0 at p ⊢
  induction r0 with
  | ok d => exact fun H1 e1 => q d H1 e1 (r.mono e1) p
  | err c fs => exact fun x H1 e1 hd => p x σ H1 (r.mono e1) hd
  | stuck => exact p
  | any k0 ih => exact fun i => ih i (p i)
/-- what is no comprehension -/
def isComp : Expr → Bool
  | .ListComp .. => true
  | .SetComp .. => true
  | .DictComp .. => true
  | _ => false
theorem swap_no {target : Option Expr} {l : Nat} {env : Env} (h : isComp e = false) : swapsWith e target l env = pure false := by
  cases e <;> first | rfl | (simp [isComp] at h)
theorem bs_pass : PS X (.Pass pos) (tS T W .nx) := ps_imp ps_pass fun D σ H ⟨H0, O, ρ, r, p⟩ => p σ H r
theorem bs_brk : PS X (.Break pos) (tS T W .bk) := ps_imp ps_break fun D σ H ⟨H0, O, ρ, r, p⟩ => p σ H r
theorem bs_ct : PS X (.Continue pos) (tS T W .ct) := ps_imp ps_continue fun D σ H ⟨H0, O, ρ, r, p⟩ => p σ H r
theorem bs_expr (he : PE X e (tB T W f)) (hc : isComp e = false) : PS X (.Expr e pos) (tS T W fun ρ => ofR (f ρ) ρ fun _ => .nx ρ) :=
  ps_imp (ps_expr he (swap_no hc)) fun D σ H ⟨H0, O, ρ, r, p⟩ => tB.stmt r p fun d v H1 e1 r1 d1 p1 => p1 σ H1 r1
theorem bs_ret (he : PE X e (tP T W f)) : PS X (.Return (some e) pos) (tS T W fun ρ => ofR (f ρ) ρ .rt) :=
  ps_imp (ps_ret he) fun D σ H ⟨H0, O, ρ, r, p⟩ => tP.stmt r p fun d v H1 e1 r1 d1 p1 => p1 v H1 r1.ex r1.dom (SDen.d (fun _ z => .inl z) d1)
theorem bs_retN : PS X (.Return none pos) (tS T W fun _ => .rt .non) :=
  ps_imp ps_retN fun D σ H ⟨H0, O, ρ, r, p⟩ => p .non H r.ex r.dom (by simp [Den])
theorem bs_if {c : Expr} {a b : List Stmt} (hc : PT X c (tBT T W t)) (ha : PSs X a (tS T W F)) (hb : PSs X b (tS T W G)) : PS X (.If c a b pos) (tS T W fun ρ => ofT (t ρ) ρ fun b => if b then F ρ else G ρ) :=
  ps_imp (ps_if hc ha hb) fun D σ H ⟨H0, O, ρ, r, p⟩ => tBT.stmt r p fun b H1 e1 r1 p1 => by
    cases b with
    | true => exact ⟨H0, O, ρ, r1, p1⟩
    | false => exact ⟨H0, O, ρ, r1, p1⟩
/-! ### assignments -/
variable {i : Nat} {x : Str} {ppos : Pos}
theorem bs_set (S : Sok T N sc W k X) (hi : N[i]? = some x) (hx : Loc sc x) (he : PE X e (tB T W f)) (hs : swapsWith e (some (.Name x ppos)) pos.line X.env = pure false) :
    PS X (.Assign [.Name x ppos] e pos) (tS T W fun ρ => ofR (f ρ) ρ fun d => .nx (ρ.set i (some (false, d)))) :=
  ps_imp (ps_set (i := i) (by rw [S.C.hN]; exact S.C.nd) (by rw [S.C.hN]; exact hi) (by rw [S.C.hsc]; exact hx) he hs (.inl (S.C.hfn rfl x))) fun D σ H ⟨H0, O, ρ, r, p⟩ => tB.stmt r p fun d v H1 e1 r1 d1 p1 => p1 _ H1 (r1.set i d1)
/-- a value, a list of which is new -/
def NewC (T : Tb) (A : AP) (H : Hp) (ks ds : List D) (v : V) (H' : Hp) : Prop := ∃ p, v = .ref p ∧ H p = none ∧ OwnDen T (fun a => A a ∨ a = p) H' (.dct ks ds) p
theorem NewC.den {ks ds : List D} {v : V} (n : NewC T A H ks ds v H') (hd : ∀ a, A a → H a ≠ none) : Den T A H' (.dct ks ds) v := by
  obtain ⟨p, rfl, h1, es, h2, h5, h3, h4⟩ := n
  simp only [Den]
  exact ⟨p, es, rfl, h2, fun z => hd p z h1, h5, h3.weak fun a z => .inl z, h4.weak fun a z => .inl z⟩
def NewD (T : Tb) (A : AP) (H : Hp) (d : D) (v : V) (H' : Hp) : Prop := match d with
  | .lst ds => NewL T A H ds v H'
  | .dct ks ds => NewC T A H ks ds v H'
  | d => Den T A H' d v
def PostN (T : Tb) (W : WX) (A : AP) (σ : L2.St) (H : Hp) (r : R D) (Q : VK) : Prop := match r with
  | .ok d => ∀ v H', Ex H H' → NewD T A H d v H' → Q v H'
  | .err c fs => ∀ x H', Ex H H' → ErrDen T A H' c fs x → W (.ref (T.cls c)) x σ H'
  | .stuck => False
  | .any k => ∀ i, PostN T W A σ H (k i) Q
def tF (T : Tb) (W : WX) (f : Rho → R D) : TE := fun σ H Q => ∃ H0 O ρ, Rel T H0 O σ H ρ ∧ PostN T W (Av O σ ρ) σ H (f ρ) Q
def ownD : D → Bool
  | .lst _ => true
  | .dct _ _ => true
  | _ => false
/-- a slot gets a new list -/
theorem Rel.setNewO {d0 : D} {p : Addr} (r : Rel T H0 O σ H ρ) (i : Nat) (e : Ex H H') (hp : H p = none) (hd : OwnDen T (fun a => Av O σ ρ a ∨ a = p) H' d0 p) : Rel T H0 O (σ.set i (some (.ref p))) H' (ρ.set i (some (true, d0))) := by
  have hown : ∀ a, OwnA (σ.set i (some (.ref p))) (ρ.set i (some (true, d0))) a → OwnA σ ρ a ∨ a = p := fun a ⟨j, g, h1, h2⟩ => by
    by_cases hj : i = j
    · subst hj; have := get_set_self h2; cases this; exact .inr rfl
    · rw [List.getElem?_set_ne hj] at h1 h2; exact .inl ⟨j, g, h1, h2⟩
  have hav : ∀ a, Av O (σ.set i (some (.ref p))) (ρ.set i (some (true, d0))) a → Av O σ ρ a ∨ a = p := fun a h => by
    rcases h with h | h
    · exact .inl (.inl h)
    · exact (hown a h).imp .inr id
  have hav0 : ∀ a, Av O (σ.set i (some (.ref p))) (ρ.set i (some (true, d0))) a → H a ≠ none → Av O σ ρ a := fun a h hn => (hav a h).elim id fun z => by subst z; exact absurd hp hn
  refine ⟨r.ex.trans e, fun a h z => r.dom a h (Evl.fresh_back e z), by simp [r.len], fun j g h => ?_, fun j g h => ?_, fun j l g1 g2 a h1 h2 h3 h4 => ?_⟩
  · by_cases hj : i = j
    · subst hj; have := get_set_self h; cases this
    · rw [List.getElem?_set_ne hj] at h
      obtain ⟨w, e1, e2⟩ := r.val j g h
      exact ⟨w, by rw [List.getElem?_set_ne hj]; exact e1, e2.mono e hav0⟩
  · by_cases hj : i = j
    · subst hj
      have e1 := get_set_self h
      cases e1
      have hi : i < σ.length := by
        have := (List.getElem?_eq_some_iff.mp h).1
        rw [← r.len]; simpa using this
      exact ⟨p, List.getElem?_set_self hi, ⟨Evl.fresh_back r.ex hp, fun z => r.dom p z hp⟩, hd.weak hav⟩
    · rw [List.getElem?_set_ne hj] at h
      obtain ⟨a, e1, e2, e3⟩ := r.own j g h
      refine ⟨a, by rw [List.getElem?_set_ne hj]; exact e1, e2, ?_⟩
      cases g with
      | lst ds => obtain ⟨vs, z1, z2⟩ := e3; exact ⟨vs, e _ _ z1, z2.mono e hav0⟩
      | ins c fs => obtain ⟨dx, vs, z1, z3, z2⟩ := e3; exact ⟨dx, vs, e _ _ z1, z3, z2.mono e hav0⟩
      | dct ks ds => obtain ⟨es, z1, z8, z2, z9⟩ := e3; exact ⟨es, e _ _ z1, z8, z2.mono e hav0, z9.mono e hav0⟩
      | _ => exact e3.elim
  · by_cases hj : i = j
    · subst hj
      by_cases hl : i = l
      · exact hl
      · have := get_set_self h3
        cases this
        rw [List.getElem?_set_ne hl] at h2 h4
        obtain ⟨b, e1, _, e3⟩ := r.own l g2 h2
        rw [h4] at e1; cases e1
        exact absurd hp e3.some
    · by_cases hl : i = l
      · subst hl
        have := get_set_self h4
        cases this
        rw [List.getElem?_set_ne hj] at h1 h3
        obtain ⟨b, e1, _, e3⟩ := r.own j g1 h1
        rw [h3] at e1; cases e1
        exact absurd hp e3.some
      · rw [List.getElem?_set_ne hj] at h1 h3
        rw [List.getElem?_set_ne hl] at h2 h4
        exact r.inj j l g1 g2 a h1 h2 h3 h4
theorem Rel.setNew {ds : List D} {v : V} (r : Rel T H0 O σ H ρ) (i : Nat) (e : Ex H H') (n : NewL T (Av O σ ρ) H ds v H') : Rel T H0 O (σ.set i (some v)) H' (ρ.set i (some (true, .lst ds))) := by
  obtain ⟨p, vs, rfl, hp, hp', hd⟩ := n
  exact r.setNewO i e hp ⟨vs, hp', hd⟩
theorem Rel.setD {d : D} {v : V} (r : Rel T H0 O σ H ρ) (i : Nat) (e : Ex H H') (n : NewD T (Av O σ ρ) H d v H') : Rel T H0 O (σ.set i (some v)) H' (ρ.set i (some (ownD d, d))) := by
  cases d with
  | lst ds => exact r.setNew i e n
  | dct ks ds => obtain ⟨p, rfl, hp, hd⟩ := (show NewC T (Av O σ ρ) H ks ds v H' from n); exact r.setNewO i e hp hd
  | _ => exact (r.mono e).set i n
theorem tF.stmt {K' : VK} {k : D → Out} (r : Rel T H0 O σ H ρ) (p : PostS T W H0 O (ofR (f ρ) ρ k) De) (q : ∀ d v H1, Ex H H1 → NewD T (Av O σ ρ) H d v H1 → PostS T W H0 O (k d) De → K' v H1) : tF T W f σ H K' := by
  refine ⟨H0, O, ρ, r, ?_⟩
  generalize f ρ = r0 at p ⊢
  induction r0 with
  | ok d => exact fun v H1 e1 hd => q d v H1 e1 hd p
  | err c fs => exact fun x H1 e1 hd => p x σ H1 (r.mono e1) hd
  | stuck => exact p
  | any k0 ih => exact fun i => ih i (p i)
theorem bs_setO (S : Sok T N sc W k X) (hi : N[i]? = some x) (hx : Loc sc x) (he : PE X e (tF T W f)) (hs : swapsWith e (some (.Name x ppos)) pos.line X.env = pure false) :
    PS X (.Assign [.Name x ppos] e pos) (tS T W fun ρ => ofR (f ρ) ρ fun d => .nx (ρ.set i (some (ownD d, d)))) :=
  ps_imp (ps_set (i := i) (by rw [S.C.hN]; exact S.C.nd) (by rw [S.C.hN]; exact hi) (by rw [S.C.hsc]; exact hx) he hs (.inl (S.C.hfn rfl x))) fun D σ H ⟨H0, O, ρ, r, p⟩ => tF.stmt r p fun d v H1 e1 d1 p1 => p1 _ H1 (r.setD i e1 d1)
/-- the body's own list is its own no more -/
def frz (i : Nat) (ρ : Rho) : Rho := match ρ[i]? with
  | some (some (true, .lst ds)) => ρ.set i (some (false, .lst ds))
  | some (some (true, .dct ks ds)) => ρ.set i (some (false, .dct ks ds))
  | _ => ρ
theorem Rel.frzO (r : Rel T H0 O σ H ρ) {i : Nat} {d0 : D} {a : Addr} (hi : ρ[i]? = some (some (true, d0))) (e1 : σ[i]? = some (some (.ref a))) (e2 : H0 a = none ∧ ¬ O a) (hden : ∀ A' : AP, (∀ b, A' b → Av O σ ρ b) → ¬ A' a → Den T A' H d0 (.ref a)) : Rel T H0 O σ H (ρ.set i (some (false, d0))) := by
  have hown : ∀ b, OwnA σ (ρ.set i (some (false, d0))) b → OwnA σ ρ b ∧ b ≠ a := fun b ⟨j, g, h1, h2⟩ => by
    by_cases hj : i = j
    · subst hj; have := get_set_self h1; cases this
    · rw [List.getElem?_set_ne hj] at h1
      exact ⟨⟨j, g, h1, h2⟩, fun z => hj (by subst z; exact r.inj i j _ g _ hi h1 e1 h2)⟩
  have hav : ∀ b, Av O σ (ρ.set i (some (false, d0))) b → Av O σ ρ b := fun b h => h.imp id fun z => (hown b z).1
  refine ⟨r.ex, r.dom, by simp [r.len], fun j g h => ?_, fun j g h => ?_, fun j l g1 g2 b h1 h2 h3 h4 => ?_⟩
  · by_cases hj : i = j
    · subst hj
      have := get_set_self h
      cases this
      refine ⟨.ref a, e1, ?_⟩
      refine hden _ hav fun z => ?_
      rcases z with z | z
      · exact e2.2 z
      · exact (hown a z).2 rfl
    · rw [List.getElem?_set_ne hj] at h
      obtain ⟨w, q1, q2⟩ := r.val j g h
      exact ⟨w, q1, q2.weak hav⟩
  · by_cases hj : i = j
    · subst hj; have := get_set_self h; cases this
    · rw [List.getElem?_set_ne hj] at h
      obtain ⟨b, q1, q2, q3⟩ := r.own j g h
      refine ⟨b, q1, q2, ?_⟩
      cases g with
      | lst ds => obtain ⟨vs, z1, z2⟩ := q3; exact ⟨vs, z1, z2.weak hav⟩
      | ins c fs => obtain ⟨dx, vs, z1, z3, z2⟩ := q3; exact ⟨dx, vs, z1, z3, z2.weak hav⟩
      | dct ks ds => obtain ⟨es, z1, z8, z2, z9⟩ := q3; exact ⟨es, z1, z8, z2.weak hav, z9.weak hav⟩
      | _ => exact q3.elim
  · by_cases hj : i = j
    · subst hj; have := get_set_self h1; cases this
    · by_cases hl : i = l
      · subst hl; have := get_set_self h2; cases this
      · rw [List.getElem?_set_ne hj] at h1
        rw [List.getElem?_set_ne hl] at h2
        exact r.inj j l g1 g2 b h1 h2 h3 h4
theorem Rel.frz (r : Rel T H0 O σ H ρ) (i : Nat) : Rel T H0 O σ H (BV.frz i ρ) := by
  unfold BV.frz
  split
  · rename_i ds hi
    obtain ⟨a, e1, e2, vs, e3, e4⟩ := r.own i _ hi
    exact r.frzO hi e1 e2 fun A' h1 h2 => by simp only [Den]; exact ⟨a, vs, rfl, e3, h2, e4.weak h1⟩
  · rename_i ks ds hi
    obtain ⟨a, e1, e2, es, e3, e6, e4, e5⟩ := r.own i _ hi
    exact r.frzO hi e1 e2 fun A' h1 h2 => by simp only [Den]; exact ⟨a, es, rfl, e3, h2, e6, e4.weak h1, e5.weak h1⟩
  · exact r
theorem bs_frz (i : Nat) (h : PSs X sts (tS T W G)) : PSs X sts (tS T W fun ρ => G (BV.frz i ρ)) := pss_imp h fun D σ H ⟨H0, O, ρ, r, p⟩ => ⟨H0, O, BV.frz i ρ, r.frz i, p⟩
/-- a target of several names -/
theorem bs_tgt {te : Expr} {tg : Tg} (he : PE X e (tB T W f)) (hg : PG X te (tG T tg)) (ht : isStar te = false) (hs : swapsWithSole [te] e pos.line X.env = pure false) (hw : swappedStores [te] e X.env = pure none) :
    PS X (.Assign [te] e pos) (tS T W fun ρ => ofR (f ρ) ρ fun d => match tg.bind d ρ with | some ρ' => .nx ρ' | none => .stuck) :=
  ps_imp (ps_asg he hg hs hw (by rw [ae_cons ht]; rfl)) fun D σ H ⟨H0, O, ρ, r, p⟩ => tB.stmt r p fun d v H1 e1 r1 d1 p1 => by
    split at p1
    · rename_i ρ' hb
      exact ⟨H0, O, ρ, ρ', d, r1, d1, hb, fun σ' _ r' => p1 σ' H1 r'⟩
    · exact p1.elim
/-! ### a, b = x, y -/
def tE (T : Tb) (W : WX) : Bool → (Rho → R D) → TE
  | true => tF T W
  | false => tB T W
/-- what a value is: new where it is said to be -/
def NewO (T : Tb) (A : AP) (H : Hp) (o : Bool) (d : D) (v : V) (H' : Hp) : Prop := match o with
  | true => NewD T A H d v H'
  | false => Den T A H' d v
def ownO (o : Bool) (d : D) : Bool := o && ownD d
/-- the address that a new value takes -/
def newAt (o : Bool) (d : D) (v : V) : AP := fun a => ownO o d = true ∧ v = .ref a
theorem Rel.moreAt (r : Rel T H0 O σ H ρ) (e : Ex H H') {o : Bool} {d : D} {v : V} (n : NewO T (Av O σ ρ) H o d v H') : Rel T H0 (fun a => O a ∨ newAt o d v a) σ H' ρ := by
  have hnew : ∀ a, newAt o d v a → H a = none ∧ H' a ≠ none := fun a ⟨h1, h2⟩ => by
    cases o with
    | false => simp [ownO] at h1
    | true =>
      cases d with
      | lst ds =>
        obtain ⟨p, vs, e1, e2, e3, _⟩ := (show NewL T (Av O σ ρ) H ds v H' from n)
        rw [e1] at h2; cases h2
        exact ⟨e2, by rw [e3]; simp⟩
      | dct ks ds =>
        obtain ⟨p, e1, e2, e3⟩ := (show NewC T (Av O σ ρ) H ks ds v H' from n)
        rw [e1] at h2; cases h2
        exact ⟨e2, e3.some⟩
      | _ => simp [ownO, ownD] at h1
  have hav : ∀ a, Av (fun a => O a ∨ newAt o d v a) σ ρ a → H a ≠ none → Av O σ ρ a := fun a h hn => by
    rcases h with (h | h) | h
    · exact .inl h
    · exact absurd (hnew a h).1 hn
    · exact .inr h
  refine ⟨r.ex.trans e, fun a h => ?_, r.len, fun i g h => ?_, fun i g h => ?_, r.inj⟩
  · rcases h with h | h
    · exact fun z => r.dom a h (Evl.fresh_back e z)
    · exact (hnew a h).2
  · obtain ⟨w, h1, h2⟩ := r.val i g h
    exact ⟨w, h1, h2.mono e hav⟩
  · obtain ⟨a, h1, h2, h3⟩ := r.own i g h
    refine ⟨a, h1, ⟨h2.1, fun z => z.elim h2.2 fun z => h3.some (hnew a z).1⟩, ?_⟩
    cases g with
    | lst ds => obtain ⟨vs, z1, z2⟩ := h3; exact ⟨vs, e _ _ z1, z2.mono e hav⟩
    | ins c fs => obtain ⟨dx, vs, z1, z3, z2⟩ := h3; exact ⟨dx, vs, e _ _ z1, z3, z2.mono e hav⟩
    | dct ks ds => obtain ⟨es, z1, z8, z2, z9⟩ := h3; exact ⟨es, e _ _ z1, z8, z2.mono e hav, z9.mono e hav⟩
    | _ => exact h3.elim
theorem tE.stmt {o : Bool} {K' : VK} {k : D → Out} (r : Rel T H0 O σ H ρ) (p : PostS T W H0 O (ofR (f ρ) ρ k) De) (q : ∀ d v H1, Ex H H1 → NewO T (Av O σ ρ) H o d v H1 → PostS T W H0 O (k d) De → K' v H1) : tE T W o f σ H K' := by
  cases o with
  | true => exact tF.stmt r p q
  | false => exact tB.stmt r p fun d v H1 e1 _ d1 p1 => q d v H1 e1 d1 p1
theorem Leaf.stmt {r0 : R D} {d : D} {k : D → Out} (l : Leaf r0 d) (p : PostS T W H0 O (ofR r0 ρ k) De) : PostS T W H0 O (k d) De := by
  induction l with
  | ok a => exact p
  | any h ih => exact ih (p _)
theorem tE.stmt' {o : Bool} {K' : VK} {k : D → Out} (r : Rel T H0 O σ H ρ) (p : PostS T W H0 O (ofR (f ρ) ρ k) De) (q : ∀ d v H1, Leaf (f ρ) d → Ex H H1 → NewO T (Av O σ ρ) H o d v H1 → K' v H1) : tE T W o f σ H K' := by
  cases o with
  | true =>
    refine ⟨H0, O, ρ, r, ?_⟩
    generalize f ρ = r0 at p q ⊢
    induction r0 with
    | ok d => exact fun v H1 e1 hd => q d v H1 (.ok d) e1 hd
    | err c fs => exact fun x H1 e1 hd => p x σ H1 (r.mono e1) hd
    | stuck => exact p.elim
    | any k0 ih => exact fun i => ih i (p i) fun d v H1 l => q d v H1 (.any l)
  | false =>
    refine ⟨H0, O, ρ, r, ?_⟩
    generalize f ρ = r0 at p q ⊢
    induction r0 with
    | ok d => exact fun v H1 e1 hd => q d v H1 (.ok d) e1 hd
    | err c fs => exact fun x H1 e1 hd => p x σ H1 (r.mono e1) hd
    | stuck => exact p.elim
    | any k0 ih => exact fun i => ih i (p i) fun d v H1 l => q d v H1 (.any l)
theorem PostS.more {O' : AP} {o : Out} (h : PostS T W H0 O o De) (i : ∀ a, O a → O' a) : PostS T W H0 O' o De := by
  induction o with
  | nx ρ => exact fun σ H r => h σ H (r.less i)
  | rt d => exact fun v H x d q => h v H x (fun a z => d a (i a z)) (q.weak i)
  | bk ρ => exact fun σ H r => h σ H (r.less i)
  | ct ρ => exact fun σ H r => h σ H (r.less i)
  | err c fs ρ => exact fun x σ H r q => h x σ H (r.less i) (q.weak fun a z => z.imp (i a) id)
  | stuck => exact h
  | any k ih => exact fun i => ih i (h i)
/-- a value is stored that avoids what was made before it -/
theorem Rel.setO {o : Bool} {d : D} {v : V} (r : Rel T H0 O σ H ρ) (i : Nat) (e : Ex H H') (n : NewO T (Av O σ ρ) H o d v H') : Rel T H0 O (σ.set i (some v)) H' (ρ.set i (some (ownO o d, d))) := by
  cases o with
  | true =>
    have : ownO true d = ownD d := by simp [ownO]
    rw [this]
    exact r.setD i e n
  | false => exact (r.mono e).set i n
theorem Av.after {o : Bool} {d : D} {v : V} {i : Nat} : ∀ a, Av O (σ.set i (some v)) (ρ.set i (some (ownO o d, d))) a → Av (fun a => O a ∨ newAt o d v a) σ ρ a := fun a h => by
  rcases h with h | ⟨j, g, h1, h2⟩
  · exact .inl (.inl h)
  · by_cases hj : i = j
    · subst hj
      have e1 := get_set_self h1
      have e2 := get_set_self h2
      cases e2
      have : ownO o d = true := by injection e1 with e1; injection e1 with e1 e3; exact e1.symm
      exact .inl (.inr ⟨this, rfl⟩)
    · rw [List.getElem?_set_ne hj] at h1 h2
      exact .inr ⟨j, g, h1, h2⟩
theorem NewO.weak {A A' : AP} {o : Bool} {d : D} {v : V} (n : NewO T A H o d v H') (h : ∀ a, A' a → A a) : NewO T A' H o d v H' := by
  cases o with
  | false => exact Den.weak n h
  | true =>
    cases d with
    | lst ds =>
      obtain ⟨p, vs, e1, e2, e3, e4⟩ := (show NewL T A H ds v H' from n)
      exact ⟨p, vs, e1, e2, e3, e4.weak fun a z => z.imp (h a) id⟩
    | dct ks ds =>
      obtain ⟨p, e1, e2, e3⟩ := (show NewC T A H ks ds v H' from n)
      exact ⟨p, e1, e2, e3.weak fun a z => z.imp (h a) id⟩
    | _ => exact Den.weak n h
variable {a b c : Expr} {h : Rho → R D} {j l : Nat} {y z : Str} {px py pz pt pt2 : Pos} {kt k2 : Nat} {o1 o2 o3 : Bool}
def par2 (i j : Nat) (o1 o2 : Bool) (f g : Rho → R D) : Rho → Out := fun ρ => ofR (f ρ) ρ fun d => ofR (g ρ) ρ fun e => .nx ((ρ.set i (some (ownO o1 d, d))).set j (some (ownO o2 e, e)))
theorem bs_par2 (S : Sok T N sc W k X) (hi : N[i]? = some x) (hj : N[j]? = some y) (hij : i ≠ j) (hx : sc.names.lookup x = some .local) (hy : sc.names.lookup y = some .local) (ha : PE X a (tE T W o1 f)) (hb : PE X b (tE T W o2 g)) (s1 : isStar a = false) (s2 : isStar b = false)
    (hw : swappedStores [.Tuple [.Name x px, .Name y py] kt pt] (.Tuple [a, b] k2 pt2) X.env = pure (some [x, y])) :
    PS X (.Assign [.Tuple [.Name x px, .Name y py] kt pt] (.Tuple [a, b] k2 pt2) pos) (tS T W (par2 i j o1 o2 f g)) := by
  refine ps_imp (ps_par (i := i) (j := j) S.C.calm (by rw [S.C.hN]; exact S.C.nd) (by rw [S.C.hN]; exact hi) (by rw [S.C.hN]; exact hj) hij (by rw [S.C.hsc]; exact hx) (by rw [S.C.hsc]; exact hy) (pa_cons ha (pa_cons hb pa_nil (star_cons s2)) (star_cons s1)) hw rfl) fun D σ H ⟨H0, O, ρ, r, p⟩ => ?_
  refine tE.stmt r p fun d v H1 e1 n1 p1 => tE.stmt' (r.moreAt e1 n1) (p1.more fun _ => .inl) fun e w H2 q2 e2 n2 => ⟨v, w, rfl, ?_⟩
  exact q2.stmt p1 _ H2 ((r.setO i e1 n1).setO j e2 (n2.weak Av.after))
end
theorem force_PostS : True := by
  have h1 := @PostS.eq_def
  have h2 := @PostS.eq_1
  trivial
theorem force_ofR : True := by
  have h1 := @ofR.eq_def
  have h2 := @ofR.eq_1
  trivial
theorem force_ofT : True := by
  have h1 := @ofT.eq_def
  have h2 := @ofT.eq_1
  trivial
theorem force_seqO : True := by
  have h1 := @seqO.eq_def
  have h2 := @seqO.eq_1
  trivial
theorem force_PostN : True := by
  have h1 := @PostN.eq_def
  have h2 := @PostN.eq_1
  trivial
end BV
set_option Elab.async false
set_option linter.all false
set_option maxRecDepth 100000
set_option maxHeartbeats 1000000
namespace BV
open PySem L2 PySem.Spec PyProof.Rows
open Evl (Ex)

section
variable {T : Tb} {N : List Str} {sc : Scope} {W : WX} {k : Nat} {X : Cx} {O A : AP} {H0 H H' : Hp} {σ : L2.St} {ρ : Rho} {De : Ends} {pos : Pos} {st : Stmt} {sts : List Stmt} {F G : Rho → Out} {f g : Rho → R D} {t : Rho → R Bool} {e : Expr}
/-- anything can be said to be out of reach -/
theorem bs_stuck : PS X st (tS T W fun _ => .stuck) := ⟨fun pins s σ H D I ⟨_, _, _, _, p⟩ => p.elim⟩
theorem be_stuck : PE X e (tB T W fun _ => .stuck) := ⟨fun pins s σ H Q I ⟨_, _, _, _, p⟩ => p.elim⟩
theorem bp_stuck : PE X e (tP T W fun _ => .stuck) := ⟨fun pins s σ H Q I ⟨_, _, _, _, p⟩ => p.elim⟩
theorem bt_stuck : PT X e (tBT T W fun _ => .stuck) := ⟨fun pins s σ H Q I ⟨_, _, _, _, p⟩ => p.elim⟩

/-! ### for -/
def loopO (o : Out) (k : Rho → Out) : Out := match o with
  | .nx ρ => k ρ
  | .ct ρ => k ρ
  | .bk ρ => .nx ρ
  | .rt d => .rt d
  | .err c fs ρ => .err c fs ρ
  | .stuck => .stuck
  | .any q => .any fun i => loopO (q i) k
def forGo (bind : D → Rho → Option Rho) (body : Rho → Out) : List D → Rho → Out
  | [], ρ => .nx ρ
  | d :: ds, ρ => match bind d ρ with
    | none => .stuck
    | some ρ' => loopO (body ρ') (forGo bind body ds)
def ofW (r : R (List D)) (ρ : Rho) (k : List D → Out) : Out := match r with
  | .ok d => k d
  | .err c fs => .err c fs ρ
  | .stuck => .stuck
  | .any q => .any fun i => ofW (q i) ρ k
def forF (tg : Tg) (items : Rho → R (List D)) (body : Rho → Out) : Rho → Out := fun ρ => ofW (items ρ) ρ fun ds => forGo tg.bind body ds ρ
theorem bs_for {tge iter : Expr} {body : List Stmt} {tg : Tg} {items : Rho → R (List D)} (S : Sok T N sc W k X) (hi : PI X tge iter (tI T W items)) (hg : PG X tge (tG T tg)) (hb : PSs X body (tS T W F))
    (hs : ∀ x, foldedSetIterable iter X.env x = pure x) : PS X (.For tge iter body [] pos) (tS T W (forF tg items F)) := by
  refine ps_imp (ps_for S.po S.C.calm hi hg hb hs) fun De σ H ⟨H0, O, ρ, r, p⟩ => ⟨H0, O, ρ, r, ?_⟩
  unfold forF at p
  generalize items ρ = r0 at p ⊢
  induction r0 with
  | stuck => exact p.elim
  | err c fs => exact fun x H' e hd => p x σ H' (r.mono e) hd
  | any k0 ih => exact fun i => ih i (p i)
  | ok ds =>
    intro J H1 e1 wk
    have r1 := r.mono e1
    have p1 : PostS T W (Fz σ ρ H1) O (forGo tg.bind F ds ρ) De := PostS.base p r1.exFz
    refine ⟨fun i m σ' H' => m = ds.length - i ∧ i ≤ ds.length ∧ ∃ ρ', Rel T (Fz σ ρ H1) O σ' H' ρ' ∧ PostS T W (Fz σ ρ H1) O (forGo tg.bind F (ds.drop i) ρ') De,
      ⟨ds.length, by simp, Nat.zero_le _, ρ, r1.rebase, by simpa using p1⟩, ?_⟩
    rintro i m σ2 H2 ⟨rfl, hi, ρ2, r2, p2⟩
    obtain ⟨wstop, wgo⟩ := wk H2 r2.ex
    by_cases hlt : i < ds.length
    · obtain ⟨d, ed⟩ : ∃ d, ds[i]? = some d := ⟨ds[i], List.getElem?_eq_getElem hlt⟩
      obtain ⟨hgo, hyld⟩ := wgo i d ed
      have edr : ds.drop i = d :: ds.drop (i + 1) := by
        rw [List.drop_eq_getElem_cons hlt]
        have := (List.getElem?_eq_some_iff.mp ed).2
        rw [this]
      rw [edr] at p2
      simp only [forGo] at p2
      refine .inr ⟨hgo, fun σ' H' => ∃ ρ', Rel T (Fz σ ρ H1) O σ' H' ρ' ∧ PostS T W (Fz σ ρ H1) O (forGo tg.bind F (ds.drop (i + 1)) ρ') De,
        fun σ' H' z => ⟨ds.length - (i + 1), by omega, rfl, hlt, z⟩, fun x H3 y => ?_⟩
      obtain ⟨e3, hdx⟩ := hyld x H3 y
      have r3 := r2.mono e3
      split at p2
      · exact p2.elim
      · rename_i ρ4 eb
        refine ⟨_, O, ρ2, ρ4, d, r3, hdx.weak fun a z => r3.avgr a z, eb, fun σ4 _ r4 => ⟨_, O, ρ4, r4, ?_⟩⟩
        generalize F ρ4 = o at p2 ⊢
        induction o with
        | nx ρ5 => exact fun σ5 H5 r5 => ⟨ρ5, r5, p2⟩
        | ct ρ5 => exact fun σ5 H5 r5 => ⟨ρ5, r5, p2⟩
        | bk ρ5 => exact fun σ5 H5 r5 => p2 σ5 H5 r5
        | rt d => exact p2
        | err c fs ρ5 => exact p2
        | stuck => exact p2
        | any k0 ih => exact fun i => ih i (p2 i)
    · have e : i = ds.length := by omega
      subst e
      rw [List.drop_length] at p2
      exact .inl ⟨wstop, p2 σ2 H2 r2⟩
/-! ### while -/
def whGo (cond : Rho → R Bool) (body : Rho → Out) : Nat → Rho → Out
  | 0, _ => .stuck
  | n + 1, ρ => ofT (cond ρ) ρ fun b => if b then loopO (body ρ) (whGo cond body n) else .nx ρ
theorem bs_while {c : Expr} {body : List Stmt} (n : Nat) (S : Sok T N sc W k X) (hc : PT X c (tBT T W t)) (hb : PSs X body (tS T W F)) : PS X (.While c body [] pos) (tS T W (whGo t F n)) := by
  refine ps_imp (ps_while S.po hc hb) fun De σ H ⟨H0, O, ρ, r, p⟩ => ?_
  refine ⟨fun m σ' H' => ∃ ρ', Rel T H0 O σ' H' ρ' ∧ PostS T W H0 O (whGo t F m ρ') De, ⟨n, ρ, r, p⟩, ?_⟩
  rintro m σ2 H2 ⟨ρ2, r2, p2⟩
  cases m with
  | zero => exact p2.elim
  | succ m =>
    simp only [whGo] at p2
    refine tBT.stmt r2 p2 fun b H3 e3 r3 p3 => ?_
    cases b with
    | false => rw [if_neg Bool.false_ne_true]; exact p3 σ2 H3 r3
    | true =>
      rw [if_pos rfl] at p3 ⊢
      refine ⟨fun σ' H' => ∃ ρ', Rel T H0 O σ' H' ρ' ∧ PostS T W H0 O (whGo t F m ρ') De, fun σ' H' z => ⟨m, Nat.lt_succ_self m, z⟩, H0, O, ρ2, r3, ?_⟩
      generalize F ρ2 = o at p3 ⊢
      induction o with
      | nx ρ5 => exact fun σ5 H5 r5 => ⟨ρ5, r5, p3⟩
      | ct ρ5 => exact fun σ5 H5 r5 => ⟨ρ5, r5, p3⟩
      | bk ρ5 => exact fun σ5 H5 r5 => p3 σ5 H5 r5
      | rt d => exact p3
      | err c fs ρ5 => exact p3
      | stuck => exact p3
      | any k0 ih => exact fun i => ih i (p3 i)
end
theorem force_loopO : True := by
  have h1 := @loopO.eq_def
  have h2 := @loopO.eq_1
  trivial
theorem force_forGo : True := by
  have h1 := @forGo.eq_def
  have h2 := @forGo.eq_1
  trivial
theorem force_ofW : True := by
  have h1 := @ofW.eq_def
  have h2 := @ofW.eq_1
  trivial
theorem force_whGo : True := by
  have h1 := @whGo.eq_def
  have h2 := @whGo.eq_1
  trivial
end BV
set_option Elab.async false
set_option linter.all false
set_option maxRecDepth 100000
set_option maxHeartbeats 1000000
namespace BV
open PySem L2 PySem.Spec PyProof.Rows
open Evl (Ex)

section
variable {T : Tb} {N : List Str} {sc : Scope} {W : WX} {k : Nat} {X : Cx} {O A : AP} {H0 H H' : Hp} {σ : L2.St} {ρ : Rho} {De : Ends} {pos p p2 apos : Pos} {st : Stmt} {sts : List Stmt} {F G : Rho → Out} {f g : Rho → R D} {fl : Rho → R (List D)} {t : Rho → R Bool} {e a b : Expr} {es : List Expr} {x : Str} {i : Nat} {fb : Bool}
/-! ### an own list is rewritten -/
theorem Rel.updOwn {a : Addr} {d0 d1 : D} {o : HO} (r : Rel T H0 O σ H ρ) (hi : ρ[i]? = some (some (true, d0))) (ha : σ[i]? = some (some (.ref a))) (hm : Mb (H a))
    (hd : OwnDen T (Av O σ ρ) (upd H a o) d1 a) : Rel T H0 O σ (upd H a o) (ρ.set i (some (true, d1))) := by
  obtain ⟨a', e1, e2, e3⟩ := r.own i d0 hi
  rw [ha] at e1; cases e1
  have hil : i < ρ.length := (List.getElem?_eq_some_iff.mp hi).1
  have hown : ∀ b, OwnA σ (ρ.set i (some (true, d1))) b ↔ OwnA σ ρ b := fun b => ⟨fun ⟨j, g, h1, h2⟩ => by
      by_cases hj : i = j
      · subst hj; exact ⟨i, d0, hi, h2⟩
      · rw [List.getElem?_set_ne hj] at h1; exact ⟨j, g, h1, h2⟩, fun ⟨j, g, h1, h2⟩ => by
      by_cases hj : i = j
      · subst hj; exact ⟨i, d1, List.getElem?_set_self hil, h2⟩
      · exact ⟨j, g, by rw [List.getElem?_set_ne hj]; exact h1, h2⟩⟩
  have hav : ∀ b, Av O σ (ρ.set i (some (true, d1))) b → Av O σ ρ b := fun b h => h.imp id (hown b).1
  have hA : Av O σ ρ a := .inr ⟨i, d0, hi, ha⟩
  refine ⟨fun b u h => ?_, fun b h => ?_, by simp [r.len], fun j g h => ?_, fun j g h => ?_, fun j l g1 g2 b h1 h2 h3 h4 => ?_⟩
  · have : b ≠ a := fun z => by subst z; rw [e2.1] at h; cases h
    rw [upd_ne this]; exact r.ex b u h
  · by_cases z : b = a
    · subst z; rw [upd_same]; simp
    · rw [upd_ne z]; exact r.dom b h
  · by_cases hj : i = j
    · subst hj; have := get_set_self h; cases this
    · rw [List.getElem?_set_ne hj] at h
      obtain ⟨v, q1, q2⟩ := r.val j g h
      exact ⟨v, q1, (q2.upd hA hm).weak hav⟩
  · by_cases hj : i = j
    · subst hj
      have e1 := get_set_self h
      cases e1
      refine ⟨a, ha, e2, ?_⟩
      cases d1 with
      | lst ds => obtain ⟨vs, z1, z2⟩ := hd; exact ⟨vs, z1, z2.weak hav⟩
      | ins c fs => obtain ⟨dx, vs, z1, z3, z2⟩ := hd; exact ⟨dx, vs, z1, z3, z2.weak hav⟩
      | dct ks ds => obtain ⟨es, z1, z8, z2, z9⟩ := hd; exact ⟨es, z1, z8, z2.weak hav, z9.weak hav⟩
      | _ => exact hd.elim
    · rw [List.getElem?_set_ne hj] at h
      obtain ⟨b, q1, q2, q3⟩ := r.own j g h
      have ne : b ≠ a := fun z => hj (by subst z; exact r.inj i j d0 g _ hi h ha q1)
      refine ⟨b, q1, q2, ?_⟩
      cases g with
      | lst ds => obtain ⟨vs, z1, z2⟩ := q3; exact ⟨vs, by rw [upd_ne ne]; exact z1, (z2.upd hA hm).weak hav⟩
      | ins c fs => obtain ⟨dx, vs, z1, z3, z2⟩ := q3; exact ⟨dx, vs, by rw [upd_ne ne]; exact z1, z3, (z2.upd hA hm).weak hav⟩
      | dct ks ds => obtain ⟨es, z1, z8, z2, z9⟩ := q3; exact ⟨es, by rw [upd_ne ne]; exact z1, z8, (z2.upd hA hm).weak hav, (z9.upd hA hm).weak hav⟩
      | _ => exact q3.elim
  · by_cases hj : i = j
    · subst hj
      by_cases hl : i = l
      · exact hl
      · rw [List.getElem?_set_ne hl] at h2
        exact r.inj i l d0 g2 b hi h2 h3 h4
    · rw [List.getElem?_set_ne hj] at h1
      by_cases hl : i = l
      · subst hl; exact r.inj j i g1 d0 b h1 hi h3 h4
      · rw [List.getElem?_set_ne hl] at h2
        exact r.inj j l g1 g2 b h1 h2 h3 h4
theorem Rel.updL {a : Addr} {ds ds' : List D} {vs' : List V} (r : Rel T H0 O σ H ρ) (hi : ρ[i]? = some (some (true, .lst ds))) (ha : σ[i]? = some (some (.ref a))) (hd : Dens T (Av O σ ρ) H ds' vs') : Rel T H0 O σ (upd H a (.lst vs')) (ρ.set i (some (true, .lst ds'))) := by
  obtain ⟨a', e1, e2, vs, e3, e4⟩ := r.own i _ hi
  rw [ha] at e1; cases e1
  have hm : Mb (H a) := by rw [e3]; trivial
  exact r.updOwn hi ha hm ⟨vs', upd_same, hd.upd (.inr ⟨i, _, hi, ha⟩) hm⟩
/-! ### x.append(e) -/
def appF (i : Nat) (f : Rho → R D) : Rho → Out := fun ρ => match ρ[i]? with
  | some (some (true, .lst ds)) => ofR (f ρ) ρ fun d => if ds.length < sizeLine then .nx (ρ.set i (some (true, .lst (ds ++ [d])))) else .stuck
  | _ => .stuck
theorem bs_app (S : Sok T N sc W k X) (hi : N[i]? = some x) (hv : Vis sc x) (hd : (x == ("__debug__" : Str)) = false) (hcd : (x == ("__classdict__" : Str)) = false) (he : PE X e (tB T W f)) (h1 : isStar e = false)
    (hl : (apos.endLine == p2.line) = true) : PS X (.Expr (.Call (.Attribute (.Name x p) "append" apos) [e] [] p2) pos) (tS T W (appF i f)) := by
  refine ps_imp (ps_expr (pe_bm F.plainAttrs_list F.slot_list_append F.type_list_append mt_append (pe_var (i := i) (by rw [S.C.hN]; exact hi) (by rw [S.C.hsc]; exact hv) hd hcd) (pa_cons he pa_nil (star_cons h1)) rfl
    (by have := form_true (pos := p2) (env := X.env) (es := [e]) (kws := []) (ks := []) (by simp [noStar, h1]) rfl (by simp); exact this) hl (star_cons h1) rfl) rfl) fun De σ H ⟨H0, O, ρ, r, p⟩ => ?_
  unfold appF at p
  split at p
  · rename_i ds hi2
    obtain ⟨a, e1, e2, vs, e3, e4⟩ := r.own i _ hi2
    refine ⟨_, e1, .inl ⟨rfl, vs, .inl (.inl e3)⟩, tB.stmt r p fun d v H1 x1 r1 d1 p1 => ?_⟩
    split at p1
    · rename_i hz
      have e3' := x1 _ _ e3
      refine ⟨a, vs, v, rfl, rfl, e3', by rw [e4.length]; exact hz, p1 σ _ (r1.updL hi2 e1 ((e4.ex x1).append (.cons d1 .nil)))⟩
    · exact p1.elim
  · exact p.elim
/-! ### x[i] = e -/
def setF (i : Nat) (fi f : Rho → R D) : Rho → Out := fun ρ => ofR (f ρ) ρ fun d => match ρ[i]? with
  | some (some (true, .lst ds)) => ofR (fi ρ) ρ fun
    | .int j => (match ixN ds.length j with | some n => .nx (ρ.set i (some (true, .lst (ds.set n d)))) | none => .stuck)
    | _ => .stuck
  | _ => .stuck
def subPlain (ie : Expr) : Bool := match ie with
  | .Slice .. => false
  | .Tuple .. => false
  | _ => true
theorem bs_seti {ie : Expr} {fi : Rho → R D} (S : Sok T N sc W k X) (hi : N[i]? = some x) (hv : Vis sc x) (hd : (x == ("__debug__" : Str)) = false) (hcd : (x == ("__classdict__" : Str)) = false) (he : PE X e (tB T W f)) (hie : PE X ie (tB T W fi))
    (ha : ∀ v, assign (.Subscript (.Name x p) ie p2) X.env v = (do
      let ov ← holding [v] (eval (.Name x p) X.env)
      let iv ← holding [v, ov] (eval ie X.env)
      standAt p2
      holding [v, ov, iv] (setItem ov iv v)
      release [v, ov, iv] []))
    (hs : swapsWithSole [.Subscript (.Name x p) ie p2] e pos.line X.env = pure false) (hw : swappedStores [.Subscript (.Name x p) ie p2] e X.env = pure none) :
    PS X (.Assign [.Subscript (.Name x p) ie p2] e pos) (tS T W (setF i fi f)) := by
  refine ps_imp (ps_asg he (pg_sub (pe_var (i := i) (by rw [S.C.hN]; exact hi) (by rw [S.C.hsc]; exact hv) hd hcd) hie set_list ha) hs hw rfl) fun De σ H ⟨H0, O, ρ, r, p⟩ => ?_
  unfold setF at p
  refine tB.stmt r p fun d v H1 x1 r1 d1 p1 => ?_
  split at p1
  · rename_i ds hi2
    obtain ⟨a, e1, e2, vs, e3, e4⟩ := r1.own i _ hi2
    refine ⟨_, e1, tB.stmt r1 p1 fun dj w H2 x2 r2 d2 p2 => ?_⟩
    split at p2
    · rename_i j
      simp only [Den] at d2
      subst d2
      split at p2
      · rename_i n hn
        refine ⟨a, vs, j, n, rfl, rfl, x2 _ _ e3, by rw [e4.length]; exact hn, p2 σ _ (r2.updL hi2 e1 (Dens.set n (e4.ex x2) (d1.ex x2)))⟩
      · exact p2.elim
    · exact p2.elim
  · exact p1.elim
/-! ### new lists -/
def okN (T : Tb) (A : AP) (H : Hp) (r : R D) (Q : VK) : Prop := match r with
  | .ok d => ∀ v H', Ex H H' → NewD T A H d v H' → Q v H'
  | _ => False
theorem okN.lst {ds : List D} {vs : List V} {Q : VK} (h : okN T A H (.ok (.lst ds)) Q) (dom : ∀ a, A a → H a ≠ none) (q : Dens T A H ds vs) : ∀ p, H p = none → Q (.ref p) (upd H p (.lst vs)) := fun p hp =>
  h _ _ (Ex.new hp) ⟨p, vs, rfl, hp, upd_same, q.mono (Ex.new hp) fun a z hn => z.elim id fun z => by subst z; exact absurd hp hn⟩
def rCN (T : Tb) (F : List D → R D) : List V → Hp → VK → Prop := fun vs H Q => ∃ O A ds, (∀ a, A a → H a ≠ none) ∧ SDens T O A H ds vs ∧ okN T A H (F ds) Q
def rDN (T : Tb) (F : D → D → R D) : R2 := fun v w H Q => ∃ O A x y, (∀ a, A a → H a ≠ none) ∧ SDen T O A H x v ∧ SDen T O A H y w ∧ okN T A H (F x y) Q
theorem PostN.mono {r : R D} {Q : VK} (h : PostN T W A σ H r Q) (e : Ex H H') : PostN T W A σ H' r Q := by
  induction r with
  | any k ih => exact fun i => ih i (h i)
  | ok d =>
    refine fun v H2 e2 q => h v H2 (e.trans e2) ?_
    cases d with
    | lst ds => obtain ⟨p, vs, q1, q2, q3⟩ := (show NewL T A H' ds v H2 from q); exact ⟨p, vs, q1, Evl.fresh_back e q2, q3⟩
    | dct ks ds => obtain ⟨p, q1, q2, q3⟩ := (show NewC T A H' ks ds v H2 from q); exact ⟨p, q1, Evl.fresh_back e q2, q3⟩
    | _ => exact q
  | err c fs => exact fun v H2 e2 q => h v H2 (e.trans e2) q
  | stuck => exact h
theorem tPs.bindN {f : Rho → R (List D)} {k : List D → R D} {Q : VK} {R' : List V → Hp → Prop} (r : Rel T H0 O σ H ρ) (h : PostN T W (Av O σ ρ) σ H ((f ρ).bind k) Q)
    (q : ∀ ds vs H1, Leaf (f ρ) ds → Ex H H1 → Rel T H0 O σ H1 ρ → SDens T O (Av O σ ρ) H1 ds vs → PostN T W (Av O σ ρ) σ H1 (k ds) Q → R' vs H1) : tPs T W f σ H R' := by
  refine ⟨H0, O, ρ, r, ?_⟩
  generalize f ρ = r0 at h q ⊢
  induction r0 with
  | ok d => exact fun v H1 e1 hd => q d v H1 (.ok d) e1 (r.mono e1) hd (PostN.mono (r := k d) h e1)
  | err c fs => exact h
  | stuck => exact h
  | any k0 ih => exact fun i => ih i (h i) fun d v H1 l => q d v H1 (.any l)
theorem tP.bindN {f : Rho → R D} {k : D → R D} {Q R' : VK} (r : Rel T H0 O σ H ρ) (h : PostN T W (Av O σ ρ) σ H ((f ρ).bind k) Q)
    (q : ∀ d v H1, Leaf (f ρ) d → Ex H H1 → Rel T H0 O σ H1 ρ → SDen T O (Av O σ ρ) H1 d v → PostN T W (Av O σ ρ) σ H1 (k d) Q → R' v H1) : tP T W f σ H R' := by
  refine ⟨H0, O, ρ, r, ?_⟩
  generalize f ρ = r0 at h q ⊢
  induction r0 with
  | ok d => exact fun v H1 e1 hd => q d v H1 (.ok d) e1 (r.mono e1) hd (PostN.mono (r := k d) h e1)
  | err c fs => exact h
  | stuck => exact h
  | any k0 ih => exact fun i => ih i (h i) fun d v H1 l => q d v H1 (.any l)
theorem tBs.bindN {f : Rho → R (List D)} {k : List D → R D} {Q : VK} {R' : List V → Hp → Prop} (r : Rel T H0 O σ H ρ) (h : PostN T W (Av O σ ρ) σ H ((f ρ).bind k) Q)
    (q : ∀ ds vs H1, Leaf (f ρ) ds → Ex H H1 → Rel T H0 O σ H1 ρ → Dens T (Av O σ ρ) H1 ds vs → PostN T W (Av O σ ρ) σ H1 (k ds) Q → R' vs H1) : tBs T W f σ H R' := by
  refine ⟨H0, O, ρ, r, ?_⟩
  generalize f ρ = r0 at h q ⊢
  induction r0 with
  | ok d => exact fun v H1 e1 hd => q d v H1 (.ok d) e1 (r.mono e1) hd (PostN.mono (r := k d) h e1)
  | err c fs => exact h
  | stuck => exact h
  | any k0 ih => exact fun i => ih i (h i) fun d v H1 l => q d v H1 (.any l)
theorem postN_ok {r : R D} {Q : VK} (hn : r.lf = true) (h : PostN T W A σ H r Q) : okN T A H r Q := by
  cases r with
  | ok d => exact h
  | err c fs => cases hn
  | stuck => exact h
  | any k => cases hn
theorem bf_lst (h : PA X es (tBs T W fl)) : PE X (.List es pos) (tF T W (mkL fl)) :=
  pe_imp (pe_lst h) fun σ H Q ⟨H0, O, ρ, r, p⟩ => tBs.bindN r p fun xs vs H1 _ e1 r1 d1 p1 => by
    split at p1
    · rename_i hz
      exact ⟨by rw [d1.length]; exact hz, okN.lst p1 r1.avdom d1⟩
    · exact p1.elim
theorem c_listN (hK : X.K = T.K) : CallR X (.type "list") (rCN T biList) := by
  refine CallR.imp call_list_of fun vs H Q h => ?_
  obtain ⟨O, A, ds, dom, hd, q⟩ := h
  unfold biList at q
  split at q
  · obtain ⟨v, rfl, h1⟩ := hd.one
    obtain ⟨a, ws, rfl, h2, h3⟩ := h1.lst
    exact ⟨a, ws, rfl, .inl (.inl (.inl h2)), q.lst dom h3⟩
  · obtain ⟨v, rfl, h1⟩ := hd.one
    obtain ⟨a, ws, rfl, h2, h3⟩ := h1.tup
    exact ⟨a, ws, rfl, .inr (by rw [hK]; exact h2), q.lst dom h3⟩
  · obtain ⟨v, rfl, h1⟩ := hd.one
    obtain ⟨a, rfl, h2⟩ := h1.scr
    exact ⟨a, _, rfl, .inl (by rw [hK]; exact h2.sq), q.lst dom (Dens.int _)⟩
  · exact q.elim
theorem bf_list (C : Cok T N sc W k fb X) (hg : Gl X "list") (hm : X.mg "list" = none) (ha : PA X (e :: es) (tPs T W fl))
    (he : starEach (e :: es) X.env = (false, eval e X.env) :: starEach es X.env) (hpl : (backTo pos (starEach es X.env)).any (·.1) = false) : PE X (.Call (.Name "list" p) (e :: es) [] pos) (tF T W (appL biList fl)) :=
  pe_imp (pe_callTy (c_listN C.hK) hg hm (by decide +kernel) ha (by decide) (by decide) he hpl) fun σ H Q ⟨H0, O, ρ, r, p⟩ =>
    tPs.bindN r p fun ds vs H1 _ e1 r1 d1 p1 => ⟨O, Av O σ ρ, ds, r1.avdom, d1, postN_ok (Bi.noerr .list ds) p1⟩
theorem bf_lc {elt iter tge : Expr} {ifs : List Expr} {scope : Scope} {own : List (Str × Nat)} {tg : Tg} {vs : List Nat} {cond : Rho → R Bool} {eltF : Rho → R D} {items : Rho → R (List D)} {fb : Bool} (C : Cok T N sc W k fb X) (hi : PI X tge iter (tI T W items)) (ok : BlkOk N sc scope own) (hvs : own.map (·.2) = vs) (hsl : ∀ i ∈ tg.slots, i ∈ vs)
    (hg : ∀ X', Cok T N (relS scope sc) WF k false X' → PG X' tge (tG T tg)) (ht : ∀ X', Cok T N (relS scope sc) WF k false X' → PTs X' ifs (tBT T WF cond)) (he : ∀ X', Cok T N (relS scope sc) WF k false X' → PE X' elt (tB T WF eltF))
    (hs : ∀ x, foldedSetIterable iter X.env x = pure x) : PE X (.ListComp elt [⟨tge, iter, ifs, 0⟩] scope pos) (tF T W (lcF tg vs cond eltF items)) := by
  subst hvs
  refine pe_imp (pe_lc (own := own) C.calm (by rw [C.hN]; exact C.nd) hi (by rw [C.hN, C.hsc]; exact ok) (fun s H Ca cl fp => hg _ (C.blk s H scope cl Ca fp)) (fun s H Ca cl fp => ht _ (C.blk s H scope cl Ca fp)) (fun s H Ca cl fp => he _ (C.blk s H scope cl Ca fp)) hs) fun σ H Q ⟨H0, O, ρ, r, p⟩ => ?_
  unfold lcF at p
  refine tLc_of hsl r ?_
  generalize items ρ = r0 at p ⊢
  induction r0 with
  | err c fs => exact p
  | stuck => exact p
  | any k0 ih => exact fun i => ih i (p i)
  | ok ds =>
    simp only [R.bind] at p
    split at p
    · rename_i hz
      refine ⟨hz, ?_⟩
      cases q : lcGo tg.bind cond eltF (wipeR ρ (own.map (·.2))) ds with
      | ok xs =>
        rw [q] at p
        refine ⟨xs, rfl, fun H1 e1 v H2 e2 hn => ?_⟩
        obtain ⟨q, ws, q1, q2, q3⟩ := hn
        exact p v H2 (e1.trans e2) ⟨q, ws, q1, Evl.fresh_back e1 q2, q3⟩
      | _ => rw [q] at p; exact p.elim
    · exact p.elim
end
end BV
set_option Elab.async false
set_option linter.all false
set_option maxRecDepth 100000
set_option maxHeartbeats 1000000
namespace BV
open PySem L2 PySem.Spec PyProof.Rows
open Evl (Ex)

/-! ### != by an own __eq__ -/
section
open PySem.W
variable {prog : Program} {w : World} {A : Around} {E : Value → Shared → Prop} {s : Shared} {K : Frag} {h₀ : Heap} {L : Addr} {m : Str → Option Value} {x C f : Addr} {ox : Obj} {od : Option Obj} {b tb : Value}
theorem ne_K {Q : Value → Shared → Prop} (hu : A.units + 1 < cLine) (F : Fr h₀ L s.heap m) (X₀ : K.In h₀) (I : InstAt s.heap x ox C od) (hb : Looks (model prog w) s.heap (typeOf b) tb) (hn : notFirst K C tb = true)
    (hne : findIn K (.ref C) "__ne__" = some (some (.builtin "object.__ne__"))) (hs : findIn K (.ref C) "__eq__" = some (some (.ref f))) (hf : isFn K (.ref f) = true) (ho : mroIn K C (.type "object") = some true)
    (h : wpAny (model prog w) A.in1 (call (.ref f) [.ref x, b]) (fun v s' => ∃ r, v = .bool r ∧ Q (.bool (!r)) s') E s) : wpAny (model prog w) A (richCompare .NotEq (.ref x) b) Q E s := by
  have X := X₀.keeps F.keep
  have sub : Looks (model prog w) s.heap (isInstance (.ref x) (.type "object")) true := I.type.andThen (looks_mroIn X ho)
  have hent : wpAny (model prog w) A.in1 (Builtin.«object.__ne__» ⟨[.ref x, b], []⟩) (fun fin s' => ∃ r, fin = .done (.ret (.bool r)) ∧ Q (.bool r) s') E s := by
    unfold Builtin.«object.__ne__»
    repeat (first
      | with_reducible refine wpAny_cRoomFor hu ?_
      | (refine wpAny_bind (m := callSpecialIfBound? (.ref x) (Str.ofString "__eq__") [b])
          (ifBound_K X I hs hf (wpAny_mono h (fun r s' hr => by
            obtain ⟨b, rfl, hq⟩ := hr
            repeat (first | exact ⟨_, rfl, hq⟩ | exact wpAny_pure ⟨_, rfl, hq⟩ | (refine wpAny_bind (m := truthy (.bool _)) (wpAny_truthy_bool ?_)) | wp_step)) fun _ _ e => e)))
      | wp_step)
  have one : wpAny (model prog w) A (tryCompare (.ref x) (cmpInfo .NotEq).2.1 b) (fun r s' => ∃ v, r = some v ∧ Q v s') E s := by
    rw [cmpInfo_NotEq]
    unfold tryCompare
    refine wpAny_bind ?_
    simp only [callSpecialIfBound?, bindSpecialIfBound?]
    refine wpAny_holding (wpAny_bind (wpAny_bind (wpAny_bind (I.type.here ((looks_findIn X hne).here ?_)))))
    refine wpAny_bind (wpAny_askSetting (wpAny_ite ?_))
    have fin : wpAny (model prog w) A (call (.builtin "object.__ne__") ([.ref x] ++ [b]) >>= fun v => pure (some v)) (fun r s' => ∃ q, r = some (.bool q) ∧ Q (.bool q) s') E s :=
      wpAny_bind (wpAny_mono (Q := fun v s' => ∃ q, v = .bool q ∧ Q (.bool q) s') (wpAny_call (codeAny_call_builtin PySem.F.cmp_object.ne.plain PySem.F.cmpEntry_ne (@check_slot (model prog w) _ _ s "object.__ne__" "object" "__ne__" (.ref x) [b] [] _ PySem.F.cmpKind_ne PySem.F.cmpSplit_ne sub (PySem.F.cmpArgs_ne _ _)
        (wpAny_mono hent (fun v s' hv => by obtain ⟨r, rfl, hq⟩ := hv; exact ⟨r, rfl, hq⟩) fun _ _ e => e)))) (fun v s' hv => by obtain ⟨q, rfl, hq⟩ := hv; exact wpAny_pure ⟨q, rfl, hq⟩) fun _ _ e => e)
    have hbd : bindSpecial (.builtin "object.__ne__") (.ref x) = pure (.builtin "object.__ne__", [.ref x]) := PySem.F.cmp_object.ne.bind _
    split
    · refine wpAny_bind (wpAny_of_eq hbd (wpAny_pure ?_))
      refine wpAny_mono (by exact fin) (fun r s' hr => ?_) fun _ _ e => e
      obtain ⟨q, rfl, hq⟩ := hr
      exact wpAny_pure ⟨_, rfl, hq⟩
    · refine wpAny_tryCatch (wpAny_bind (wpAny_of_eq hbd (wpAny_pure ?_)))
      refine wpAny_mono (by exact fin) (fun r s' hr => ?_) fun _ _ e => e
      obtain ⟨q, rfl, hq⟩ := hr
      exact wpAny_pure ⟨_, rfl, hq⟩
  unfold richCompare
  simp only [oneThing_ref]
  refine wpAny_holding (wpAny_bind (wpAny_cRoomFor (Nat.lt_of_succ_lt hu) ?_))
  refine wpAny_bind (I.type.here (wpAny_bind (hb.here ?_)))
  split
  · rename_i q
    have e : subIn K tb (.ref C) = some false := by
      rcases Bool.or_eq_true_iff.mp hn with e | e
      · rw [beq_iff_eq.mp e] at q; simp at q
      · exact beq_iff_eq.mp e
    refine wpAny_bind ((looks_subIn X e).here ?_)
    simp only [Bool.false_eq_true, if_false]
    refine wpAny_bind (wpAny_mono one (fun r s' z => ?_) fun _ _ e => e)
    obtain ⟨v, rfl, hq⟩ := z
    exact wpAny_pure hq
  · refine wpAny_bind (wpAny_pure ?_)
    simp only [Bool.false_eq_true, if_false]
    refine wpAny_bind (wpAny_mono one (fun r s' z => ?_) fun _ _ e => e)
    obtain ⟨v, rfl, hq⟩ := z
    exact wpAny_pure hq
end
section
variable {T : Tb} {N : List Str} {sc : Scope} {W : WX} {k : Nat} {fb : Bool} {X : Cx} {O A : AP} {H0 H H' : Hp} {σ : L2.St} {ρ : Rho} {Q : VK} {pins : List (Addr × Obj)} {s : Shared}
theorem SDen.weakO {O' : AP} {d : D} {v : V} (h : SDen T O A H d v) (i : ∀ a, O' a → O a) : SDen T O' A H d v := by
  cases d with
  | lst ds => obtain ⟨a, vs, h1, h2, h3, h4⟩ := h; exact ⟨a, vs, h1, h2, fun z => h3 (i a z), h4⟩
  | ins c fs => obtain ⟨a, dx, vs, h1, h2, h5, h3, h4⟩ := h; exact ⟨a, dx, vs, h1, h2, h5, fun z => h3 (i a z), h4⟩
  | dct ks ds => obtain ⟨a, es, h1, h2, h3, h5, h4, h6⟩ := h; exact ⟨a, es, h1, h2, fun z => h3 (i a z), h5, h4, h6⟩
  | _ => exact h
/-- a def is called by its promise, somewhere below -/
theorem run_spB {kf n : Nat} {fa : Addr} {fd : FuncData} {ps : List Str} {M : List D → R D} {A' : Around} {us : List Value} {vs : List V} (F : FnOk X.prog X.w X.K X.mg X.base (L2.CX X.prog X.w) kf fa fd ps (spB T n M)) (hb : Binds X.K fd ps []) (sb : Sub X kf A')
    (I : Inv X pins σ H s) (r : Vals vs us) (h : spB T n M vs H Q (fun _ _ _ => False)) : wpAny (model X.prog X.w) A' (call (.ref fa) us) (EP X pins σ Q) X.xe s := by
  have e0 : Env0 X.prog X.w X.K X.mg X.base A' X.stack s H := by
    have e := I.env0
    exact ⟨by rw [sb.fr]; exact e.frames, e.mod, e.bs, e.bsz, e.funs, e.frf, e.hok, e.bare⟩
  have hl := F.len _ _ _ _ h
  refine wpAny_call (codeAny_mono (F.run A' X.stack s H ⟨us, []⟩ us vs _ _ sb.room e0 (by
    have := hb s us I.kIn (by rw [List.append_nil, ← r.length, hl])
    simpa using this) r h) fun r s' hq => ?_)
  cases r with
  | error e => obtain ⟨_, _, _, _, _, _, _, _, _, _, _, _, z⟩ := hq; exact z.elim
  | ok fl =>
    cases fl with
    | ret w => exact I.after hq
    | next => exact False.elim hq
    | brk => exact False.elim hq
    | cont => exact False.elim hq
theorem inst_at {a : Addr} {C dx : Addr} {fs : List (Str × V)} (I : Inv X pins σ H s) (h : H a = some (.ins C dx fs)) : ∃ ox od, PySem.W.InstAt s.heap a ox C od := by
  obtain ⟨mA, J, _⟩ := ins_get I.hok h
  obtain ⟨od, J, _⟩ := J.look
  exact ⟨_, _, J⟩
/-- the facts of a class for an own __eq__ by def g -/
structure EqOk (T : Tb) (Φ : Nat → Fn) (c g : Nat) : Prop where
  at_ : PySem.W.findIn T.K (.ref (T.cls c)) "__eq__" = some (some (.ref (Φ g).addr))
  fn : PySem.W.isFn T.K (.ref (Φ g).addr) = true
  ne : PySem.W.findIn T.K (.ref (T.cls c)) "__ne__" = some (some (.builtin "object.__ne__"))
  ob : PySem.W.mroIn T.K (T.cls c) (.type "object") = some true
  bn : Binds T.K (Φ g).fd (Φ g).ps []
  nf : ∀ n ∈ tyNames, PySem.W.subIn T.K (.type n) (.ref (T.cls c)) = some false
/-- the answer of an own ==: a truth value -/
def blOf (r : R D) : R Bool := match r with
  | .ok (.bl b) => .ok b
  | _ => .stuck
def clsIs (c : Nat) : D → Bool
  | .ins c' _ => c' == c
  | .fn _ => false
  | .dct _ _ => false
  | .drw _ => false
  | _ => true
def opEqI (c : Nat) (M : List D → R D) (x y : D) : R D := match x with
  | .ins c' _ => if c' = c ∧ clsIs c y = true then (blOf (M [x, y])).bind fun b => .ok (.bl b) else .stuck
  | _ => .stuck
def opNeI (c : Nat) (M : List D → R D) (x y : D) : R D := match x with
  | .ins c' _ => if c' = c ∧ clsIs c y = true then (blOf (M [x, y])).bind fun b => .ok (.bl (!b)) else .stuck
  | _ => .stuck
theorem own_rel {kf c g : Nat} {Φ : Nat → Fn} {M : List D → R D} (hK : X.K = T.K) (E : EqOk T Φ c g) (hi : InsOk T c) (F : FnOk X.prog X.w X.K X.mg X.base (L2.CX X.prog X.w) kf (Φ g).addr (Φ g).fd (Φ g).ps (spB T 2 M)) {A' : Around} (sb : Sub X kf A')
    {y : D} {v w : V} {u z : Value} {fs : List D} {b : Bool} (I : Inv X pins σ H s) (ru : RelV v u) (rz : RelV w z) (dom : ∀ a, A a → H a ≠ none) (hx : SDen T O A H (.ins c fs) v) (hy : SDen T O A H y w) (hOA : True)
    (hm : M [.ins c fs, y] = .ok (.bl b)) : wpAny (model X.prog X.w) A' (call (.ref (Φ g).addr) [u, z]) (EP X pins σ fun v' H' => v' = .bl b ∧ Ex H H') X.xe s := by
  refine run_spB F (by rw [hK]; exact E.bn) sb I (.cons ru (.cons rz .nil)) ⟨fun _ => False, [.ins c fs, y], fun a z => z.elim, ?_, rfl, ?_⟩
  · exact .cons (SDen.d (O := fun _ => False) (A := A) (fun a z => z.elim) (SDen.weakO hx fun a z => z.elim)) (.cons (SDen.d (O := fun _ => False) (A := A) (fun a z => z.elim) (SDen.weakO hy fun a z => z.elim)) .nil)
  · rw [hm]
    exact fun v' H' e d => ⟨by simpa [Den] using d, e⟩
theorem ty_looks {c : Nat} {y : D} {w : V} {z : Value} (hK : X.K = T.K) (hi : InsOk T c) (hc : clsIs c y = true) (I : Inv X pins σ H s) (rz : RelV w z) (hy : SDen T O A H y w) : PySem.W.Looks (model X.prog X.w) s.heap (typeOf z) (tyVal T y) := by
  have ty : TyX X.K H w (tyVal T y) := by
    rw [hK]
    refine SDen.ty (cs := [c]) (fun c' h => by simp at h; subst h; exact hi) ?_ hy
    cases y <;> simp [topIn] <;> simpa [clsIs] using hc
  obtain ⟨P, kx, hP, _⟩ := kit_of I rz ty
  exact kx.ty _ _ I.kIn hP
theorem not_first {c g : Nat} {Φ : Nat → Fn} {y : D} {w : V} (E : EqOk T Φ c g) (hc : clsIs c y = true) (hy : SDen T O A H y w) : PySem.W.notFirst T.K (T.cls c) (tyVal T y) = true := by
  unfold PySem.W.notFirst
  cases y with
  | ins c' fs => simp [clsIs] at hc; subst hc; simp [tyVal]
  | dct a b => simp [clsIs] at hc
  | fn i => simp [clsIs] at hc
  | _ => simp only [tyVal, tyN]; rw [E.nf _ (by decide)]; simp
theorem op_eqI {kf c g : Nat} {Φ : Nat → Fn} {M : List D → R D} (hK : X.K = T.K) (E : EqOk T Φ c g) (hi : InsOk T c) (F : FnOk X.prog X.w X.K X.mg X.base (L2.CX X.prog X.w) kf (Φ g).addr (Φ g).fd (Φ g).ps (spB T 2 M)) (hr : Room kf X.A) :
    OpR X (compareOp .Eq) (rD T (opEqI c M)) := by
  intro pins s σ H v w u z Q I ru rz h
  obtain ⟨O, A, x, y, dom, hx, hy, q⟩ := h
  unfold opEqI at q
  split at q
  · rename_i c' fs
    split at q
    · rename_i hc
      obtain ⟨rfl, hc⟩ := hc
      cases hm : M [.ins c' fs, y] with
      | ok d =>
        rw [hm] at q
        cases d with
        | bl b =>
          obtain ⟨a, dx, vs, rfl, h1, _⟩ := hx.ins
          obtain rfl : u = Value.ref a := ru
          obtain ⟨ox, od, J⟩ := inst_at I h1
          obtain ⟨m, hF⟩ := I.fr
          have hL := ty_looks hK hi hc I rz hy
          refine PySem.W.cmp_K (op := .Eq) hr.units0 hF I.ok.mod.kin J hL (by rw [hK]; exact not_first E hc hy) (by rw [hK]; exact E.at_) (by rw [hK]; exact E.fn) ?_
          refine wpAny_mono (own_rel hK E hi F ⟨hr, rfl⟩ I (show RelV (V.ref a) (Value.ref a) from rfl) rz dom hx hy trivial hm) (fun r s' hq => ?_) fun _ _ e => e
          obtain ⟨v', H', I', rv, rfl, ex⟩ := hq
          obtain rfl : r = Value.bool b := rv
          exact ⟨.bl b, H', I', rfl, q _ H' ex (by simp [Den])⟩
        | _ => exact q.elim
      | err _ _ => rw [hm] at q; exact q.elim
      | stuck => rw [hm] at q; exact q.elim
      | any _ => rw [hm] at q; exact q.elim
    · exact q.elim
  · exact q.elim
theorem op_neI {kf c g : Nat} {Φ : Nat → Fn} {M : List D → R D} (hK : X.K = T.K) (E : EqOk T Φ c g) (hi : InsOk T c) (F : FnOk X.prog X.w X.K X.mg X.base (L2.CX X.prog X.w) kf (Φ g).addr (Φ g).fd (Φ g).ps (spB T 2 M)) (hr : Room (kf + 1) X.A) :
    OpR X (compareOp .NotEq) (rD T (opNeI c M)) := by
  intro pins s σ H v w u z Q I ru rz h
  obtain ⟨O, A, x, y, dom, hx, hy, q⟩ := h
  unfold opNeI at q
  split at q
  · rename_i c' fs
    split at q
    · rename_i hc
      obtain ⟨rfl, hc⟩ := hc
      cases hm : M [.ins c' fs, y] with
      | ok d =>
        rw [hm] at q
        cases d with
        | bl b =>
          obtain ⟨a, dx, vs, rfl, h1, _⟩ := hx.ins
          obtain rfl : u = Value.ref a := ru
          obtain ⟨ox, od, J⟩ := inst_at I h1
          obtain ⟨m, hF⟩ := I.fr
          have hL := ty_looks hK hi hc I rz hy
          refine ne_K (by have := hr.un; omega) hF I.ok.mod.kin J hL (by rw [hK]; exact not_first E hc hy) (by rw [hK]; exact E.ne) (by rw [hK]; exact E.at_) (by rw [hK]; exact E.fn) (by rw [hK]; exact E.ob) ?_
          refine wpAny_mono (own_rel hK E hi F ⟨hr.in1, rfl⟩ I (show RelV (V.ref a) (Value.ref a) from rfl) rz dom hx hy trivial hm) (fun r s' hq => ?_) fun _ _ e => e
          obtain ⟨v', H', I', rv, rfl, ex⟩ := hq
          obtain rfl : r = Value.bool b := rv
          exact ⟨b, rfl, .bl (!b), H', I', rfl, q _ H' ex (by simp [Den])⟩
        | _ => exact q.elim
      | err _ _ => rw [hm] at q; exact q.elim
      | stuck => rw [hm] at q; exact q.elim
      | any _ => rw [hm] at q; exact q.elim
    · exact q.elim
  · exact q.elim
/-! ### in an instance, len of an instance -/
structure SpOk (T : Tb) (Φ : Nat → Fn) (name : Str) (c g : Nat) : Prop where
  at_ : PySem.W.findIn T.K (.ref (T.cls c)) name = some (some (.ref (Φ g).addr))
  fn : PySem.W.isFn T.K (.ref (Φ g).addr) = true
  bn : Binds T.K (Φ g).fd (Φ g).ps []
def opInI (c : Nat) (M : List D → R D) (x y : D) : R D := match y with
  | .ins c' _ => if c' = c then (blOf (M [y, x])).bind fun b => .ok (.bl b) else .stuck
  | _ => .stuck
theorem op_inI {kf c g : Nat} {Φ : Nat → Fn} {M : List D → R D} (hK : X.K = T.K) (E : SpOk T Φ "__contains__" c g) (F : FnOk X.prog X.w X.K X.mg X.base (L2.CX X.prog X.w) kf (Φ g).addr (Φ g).fd (Φ g).ps (spB T 2 M)) (hr : Room kf X.A) :
    OpR X (compareOp .In) (rD T (opInI c M)) := by
  intro pins s σ H v w u z Q I ru rz h
  obtain ⟨O, A, x, y, dom, hx, hy, q⟩ := h
  unfold opInI at q
  split at q
  · rename_i c' fs
    split at q
    · rename_i hc
      subst hc
      cases hm : M [.ins c' fs, x] with
      | ok d =>
        rw [hm] at q
        cases d with
        | bl b =>
          obtain ⟨a, dx, vs, rfl, h1, _⟩ := hy.ins
          obtain rfl : z = Value.ref a := rz
          obtain ⟨ox, od, J⟩ := inst_at I h1
          obtain ⟨m, hF⟩ := I.fr
          refine PySem.W.in_K hF I.ok.mod.kin J (by rw [hK]; exact E.at_) (by rw [hK]; exact E.fn) ?_
          refine wpAny_mono (run_spB (Q := fun v' H' => v' = .bl b ∧ Ex H H') F (by rw [hK]; exact E.bn) ⟨hr, rfl⟩ I (.cons (show RelV (V.ref a) (Value.ref a) from rfl) (.cons ru .nil)) ⟨fun _ => False, [.ins c' fs, x], fun a z => z.elim, ?_, rfl, ?_⟩) (fun r s' hq => ?_) fun _ _ e => e
          · exact .cons (SDen.d (O := fun _ => False) (A := A) (fun a z => z.elim) (SDen.weakO hy fun a z => z.elim)) (.cons (SDen.d (O := fun _ => False) (A := A) (fun a z => z.elim) (SDen.weakO hx fun a z => z.elim)) .nil)
          · rw [hm]
            exact fun v' H' e d => ⟨by simpa [Den] using d, e⟩
          · obtain ⟨v', H', I', rv, rfl, ex⟩ := hq
            obtain rfl : r = Value.bool b := rv
            exact wpAny_truthy_bool ⟨.bl b, H', I', rfl, q _ H' ex (by simp [Den])⟩
        | _ => exact q.elim
      | err _ _ => rw [hm] at q; exact q.elim
      | stuck => rw [hm] at q; exact q.elim
      | any _ => rw [hm] at q; exact q.elim
    · exact q.elim
  · exact q.elim
def biLenI (c : Nat) (M : List D → R D) : List D → R D
  | [.ins c' fs] => if c' = c then (match M [.ins c' fs] with | .ok (.int i) => if 0 ≤ i ∧ i < 2 ^ 62 then .ok (.int i) else .stuck | _ => .stuck) else .stuck
  | _ => .stuck
theorem c_lenI {kf c g : Nat} {Φ : Nat → Fn} {M : List D → R D} (hK : X.K = T.K) (E : SpOk T Φ "__len__" c g) (F : FnOk X.prog X.w X.K X.mg X.base (L2.CX X.prog X.w) kf (Φ g).addr (Φ g).fd (Φ g).ps (spB T 1 M)) (hr : Room (kf + 1) X.A) :
    CallR X (.builtin "len") (rC T (biLenI c M)) := by
  intro pins s σ H vs us Q I rv h
  obtain ⟨O, A, ds, dom, hd, q⟩ := h
  unfold biLenI at q
  split at q
  · rename_i c' fs
    split at q
    · rename_i hc
      subst hc
      split at q
      · rename_i i hm
        split at q
        · rename_i hlt
          obtain ⟨v, rfl, hx⟩ := hd.one
          obtain ⟨a, dx, ws, rfl, h1, _⟩ := hx.ins
          obtain ⟨u, rfl, ru⟩ := Vals.one rv
          obtain rfl : u = Value.ref a := ru
          obtain ⟨ox, od, J⟩ := inst_at I h1
          obtain ⟨m, hF⟩ := I.fr
          refine PySem.W.len_K hF I.ok.mod.kin J (by rw [hK]; exact E.at_) (by rw [hK]; exact E.fn) ?_
          refine wpAny_mono (run_spB (Q := fun v' H' => v' = .int i ∧ Ex H H') F (by rw [hK]; exact E.bn) ⟨hr.in1, rfl⟩ I (.cons (show RelV (V.ref a) (Value.ref a) from rfl) .nil) ⟨fun _ => False, [.ins c' fs], fun a z => z.elim, ?_, rfl, ?_⟩) (fun r s' hq => ?_) fun _ _ e => e
          · exact .cons (SDen.d (O := fun _ => False) (A := A) (fun a z => z.elim) (SDen.weakO hx fun a z => z.elim)) .nil
          · rw [hm]
            exact fun v' H' e d => ⟨by simpa [Den] using d, e⟩
          · obtain ⟨v', H', I', rv, rfl, ex⟩ := hq
            obtain ⟨t, rfl⟩ : ∃ t, r = Value.int i t := rv
            exact ⟨⟨hlt.1, by omega⟩, .int i, H', I'.tok _, ⟨_, rfl⟩, q _ H' ex (by simp [Den])⟩
        · exact q.elim
      · exact q.elim
    · exact q.elim
  · exact q.elim
/-! ### in a list, in a tuple -/
def opIn2 (x y : D) : R D := match x.toP, y.toP with
  | some p, some (.list qs) => if SeqAt.shaped p && SeqAt.shaped (.list qs) then .ok (.bl (qs.any fun z => PyData.eqv z p)) else .stuck
  | some p, some (.tuple qs) => if SeqAt.shaped p && SeqAt.shaped (.tuple qs) then .ok (.bl (qs.any fun z => PyData.eqv z p)) else .stuck
  | _, _ => .stuck
def opNin2 (x y : D) : R D := match x.toP, y.toP with
  | some p, some (.list qs) => if SeqAt.shaped p && SeqAt.shaped (.list qs) then .ok (.bl (!qs.any fun z => PyData.eqv z p)) else .stuck
  | some p, some (.tuple qs) => if SeqAt.shaped p && SeqAt.shaped (.tuple qs) then .ok (.bl (!qs.any fun z => PyData.eqv z p)) else .stuck
  | _, _ => .stuck
theorem op_inDD (hK : X.K = T.K) (hu : X.A.units + 65 < cLine) : OpR X (compareOp .In) (rD T opIn2) := by
  intro pins s σ H v w u z Q I ru rz h
  obtain ⟨O, A, x, y, dom, hx, hy, q⟩ := h
  unfold opIn2 at q
  split at q
  · rename_i p qs e1 e2
    split at q
    · rename_i hs
      simp only [Bool.and_eq_true] at hs
      exact op_inD hu pins s σ H v w u z Q I ru rz ⟨p, qs, by rw [hK]; exact hx.dp e1, by rw [hK]; exact hy.dp e2, hs.1, hs.2, q.bl⟩
    · exact q.elim
  · rename_i p qs e1 e2
    split at q
    · rename_i hs
      simp only [Bool.and_eq_true] at hs
      obtain ⟨as, r1⟩ := Dp.reads I p v u (by rw [hK]; exact hx.dp e1) ru
      obtain ⟨bs, r2⟩ := Dp.reads I (.tuple qs) w z (by rw [hK]; exact hy.dp e2) rz
      exact SeqAt.in_tuple_reads r2 r1 (SeqAt.canLay_of_shaped hs.2) (SeqAt.canLay_of_shaped hs.1) (room_in_shaped hs.1 hu) ⟨.bl _, H, I, rfl, q.bl⟩
    · exact q.elim
  · exact q.elim
theorem op_ninDD (hK : X.K = T.K) (hu : X.A.units + 65 < cLine) : OpR X (compareOp .NotIn) (rD T opNin2) := by
  intro pins s σ H v w u z Q I ru rz h
  obtain ⟨O, A, x, y, dom, hx, hy, q⟩ := h
  unfold opNin2 at q
  split at q
  · rename_i p qs e1 e2
    split at q
    · rename_i hs
      simp only [Bool.and_eq_true] at hs
      exact op_notInD hu pins s σ H v w u z Q I ru rz ⟨p, qs, by rw [hK]; exact hx.dp e1, by rw [hK]; exact hy.dp e2, hs.1, hs.2, q.bl⟩
    · exact q.elim
  · rename_i p qs e1 e2
    split at q
    · rename_i hs
      simp only [Bool.and_eq_true] at hs
      obtain ⟨as, r1⟩ := Dp.reads I p v u (by rw [hK]; exact hx.dp e1) ru
      obtain ⟨bs, r2⟩ := Dp.reads I (.tuple qs) w z (by rw [hK]; exact hy.dp e2) rz
      exact SeqAt.notIn_tuple_reads r2 r1 (SeqAt.canLay_of_shaped hs.2) (SeqAt.canLay_of_shaped hs.1) (room_in_shaped hs.1 hu) ⟨.bl _, H, I, rfl, q.bl⟩
    · exact q.elim
  · exact q.elim
end
end BV
set_option Elab.async false
set_option linter.all false
set_option maxRecDepth 100000
set_option maxHeartbeats 1000000
namespace BV
open PySem L2 PySem.Spec PyProof.Rows
open Evl (Ex)

/-! ### own exceptions: def __init__(self, f): super().__init__(msg); self.f = f -/
section
open PySem.W PySem.HandSPX
/-- the text of such an __init__ -/
def xBody (fld : Str) (msg : Expr) (q1 q2 q3 q4 q5 q6 q7 q8 q9 : Pos) : List Stmt :=
  [.Expr (.Call (.Attribute (.Call (.Name "super" q1) [] [] q2) "__init__" q3) [msg] [] q4) q5, .Assign [.Attribute (.Name "self" q6) fld q7] (.Name fld q8) q9]
/-- the message is made without a trace; v: what the field gets -/
def MsgOk (P : Program) (w : World) (mg : Str → Option Value) (sc : Scope) (fld : Str) (msg : Expr) (v : Value) : Prop := ∀ (A : Around) (E : Value → Shared → Prop) (s : Shared) (env : Env) (m : Str → Option Value) (Q : Value → Shared → Prop), env.scope = sc → env.scope.kind = .function → env.kindOf fld = some .local →
  s.heap.Ns env.locals m → m fld = some v → s.heap.Ns env.globals mg → (∃ mb, s.heap.Ns env.builtins mb ∧ ∀ x : Str, x ≠ "__name__" → mb x = bootBuiltins x) → (∀ u tk, Q u { s with toks := tk }) → wpAny (model P w) A (eval msg env) Q E s
/-- how the arguments are bound: all by position, or the default -/
def SupB (fld qual : Str) (params : Arguments) (scope : Scope) : List V → Prop
  | [] => ∀ (body : List Stmt) (kV doc pm : Value) (an : Option Addr) (cdv ct : Value) (cc : Addr) (x v : Value), bindArgs (ksFn "__init__" qual params body scope .none kV doc pm an cdv ct cc) ⟨[x, v], []⟩ = pure [(("self" : Str), x), (fld, v)]
  | _ => ∀ (body : List Stmt) (Ta : Addr) (kV doc pm : Value) (an : Option Addr) (cdv ct : Value) (cc : Addr) (x u : Value),
    (∀ v, ∃ k, bindArgs (ksFn "__init__" qual params body scope (.ref Ta) kV doc pm an cdv ct cc) ⟨[x, v], []⟩ = seqItems? (.ref Ta) >>= k ∧ k (some #[u]) = pure [(("self" : Str), x), (fld, v)]) ∧
    ∃ k, bindArgs (ksFn "__init__" qual params body scope (.ref Ta) kV doc pm an cdv ct cc) ⟨[x], []⟩ = seqItems? (.ref Ta) >>= k ∧ k (some #[u]) = pure [(("self" : Str), x), (fld, u)]
structure SupTxt (P : Program) (K : Frag) (mg : Str → Option Value) (C fI : Addr) (fld qual : Str) (params : Arguments) (msg : Expr) (scope : Scope) (dvs : List V) : Prop where
  cls : ∃ nm q N bs bm sn sub ab col dd k0 k1 k2 k3 k5, K.lookup C = some (excClassObj nm q C N bs bm true sn sub ab col dd k0 k1 k2 k3 k5 "ValueError.__new__") ∧ refsVE bm = true
  sa : findIn K (.ref C) "__setattr__" = some (some (.builtin "object.__setattr__"))
  noN : findIn K (.ref C) fld = some none
  iC : findIn K (.ref C) "__init__" = some (some (.ref fI))
  tC : typeIn K (.ref fI) = some (.type "function")
  kC : keepIn K (.ref C) = true
  exC : subIn K (.ref C) (.type "BaseException") = some true
  veC : subIn K (.ref C) (.type "ValueError") = some true
  tyC : typeIn K (.ref C) = some (.type "type")
  sup : ks_superIn K C C "__init__" = some (some (.builtin "ValueError.__init__"))
  mro : mroIn K C (.ref C) = some true
  opq : nsIn K cStatics "thirdparty.any" = some none
  noS : mg "super" = none
  top : (P.main.scope.names.lookup ("super" : Str)).isSome = false
  fn : ∃ (oc : Value) (od : Option Addr) (dV kV doc pm : Value) (an : Option Addr) (cda cc : Addr) (ct : Value) (osl : Array (Option Value)) (q1 q2 q3 q4 q5 q6 q7 q8 q9 : Pos) (ccl : Value) (cdd : Option Addr) (vs : Array Value) (ccs : Array (Option Value)) (file : Str) (tf : Tok) (cl : Value) (cld : Option Addr) (csl : Array (Option Value)),
    K.lookup fI = some ⟨oc, od, .func (ksFn "__init__" qual params (xBody fld msg q1 q2 q3 q4 q5 q6 q7 q8 q9) scope dV kV doc pm an (.ref cda) ct cc), osl⟩ ∧ codeIn K (.ref cda) qual = true ∧
    K.lookup cda = some ⟨ccl, cdd, .fields vs, ccs⟩ ∧ vs[2]? = some (.str file tf) ∧ ((P.main.file : Str) == file) = true ∧ K.lookup cc = some ⟨cl, cld, .cell (some (.ref C)), csl⟩ ∧ DflV K dV dvs ∧ (q3.endLine == q4.line) = true
  par : ∃ p1 p2 dfl, params = { posonlyargs := [], args := [{ arg := "self", annotation := none, pos := p1 }, { arg := fld, annotation := none, pos := p2 }], vararg := none, kwonlyargs := [], kw_defaults := [], kwarg := none, defaults := dfl } ∧ dfl.length = dvs.length
  bd : SupB fld qual params scope dvs
  sk : scope.kind = .function
  sco : scope.isCoroutine = false
  sge : scope.isGenerator = false
  s1 : scope.names.lookup ("self" : Str) = some .local
  s2 : scope.names.lookup fld = some .local
  s3 : scope.names.lookup ("super" : Str) = some .globalImplicit
  s4 : scope.names.lookup ("__class__" : Str) = some .free
  sc : ∀ x ∈ scope.names, x.2 ≠ .cell
  ns : isStar msg = false
  fS : fld ≠ "self" ∧ (fld == ("__debug__" : Str)) = false
structure InitEnd (h h' : Heap) (x C dx : Addr) (fld : Str) (v : Value) : Prop where
  keep : ∀ b o, b ≠ x → h.get? b = some o → h'.get? b = some o
  obj : ∃ t1 : Addr, h'.get? x = some { cls := .ref C, dict := some dx, data := .fields #[.ref t1, .none, .none, .none, .bool false, .none] }
  dbig : h.objs.size ≤ dx
  dne : dx ≠ x
  ns : h'.Ns1 dx (fun y => if y = fld then some v else none)
variable {prog : Program} {w : World} {A : Around} {E : Value → Shared → Prop} {R : Result → Shared → Prop} {K : Frag} {mg : Str → Option Value} {C fI : Addr} {fld qual : Str} {params : Arguments} {msg : Expr} {scope : Scope} {dvs : List V}
theorem call_mw {h : Heap} {g : Array GenState} {d : Drawn} {t : Nat} {os : OsState} {nm q : Str} {N : Addr} {bs bm : List Value} {hdct : Bool} {sn : List Str} {sub : List Value} {ab : Bool} {col : Option Bool} {dd : Option Addr} {k0 k1 k2 k3 k5 : Option Value} {u e t0 : Addr} {rest : List Value} {Q : Value → Shared → Prop}
    (hC : h.get? C = some (excClassObj nm q C N bs bm hdct sn sub ab col dd k0 k1 k2 k3 k5 "ValueError.__new__")) (he : h.get? e = some (excO C t0)) (hu : h.get? u = some (kxs_mw "ValueError.__init__" e)) (hrest : rest.length ≤ sizeLine)
    (hq : ∀ h' t1, (∀ b o, b ≠ e → h.get? b = some o → h'.get? b = some o) → h'.get? e = some (excO C t1) → Q .none ⟨h', g, d, t, os⟩) :
    wpAny (model prog w) A (call (.ref u) rest) Q E ⟨h, g, d, t, os⟩ := by
  refine wpAny_call (codeAny_of_tree ?_)
  show wpAny _ A.in1 (callAny (.ref u) ⟨rest, []⟩) _ _ _
  simp only [callAny]
  refine wpAny_bind (wpAny_load hu ?_)
  simp only [kxs_mw, show (Value.type "method-wrapper" == Value.type "method" || Value.type "method-wrapper" == Value.type "builtin_function_or_method" || Value.type "method-wrapper" == Value.type "method-wrapper") = true by decide, if_true]
  refine KFB.if_so (by decide) ?_
  refine wpAny_bind (check_bound_init F.excBase_ValueError.toExcCallFacts hC he rfl ?_)
  refine wpAny_bind (wpAny_pure (wpAny_pure ?_))
  refine ⟨plainId_quiet F.excBase_ValueError.init.plain _, codeAny_builtin F.excBase_ValueError.initEntry ?_⟩
  exact exc_init_tree (cls := .ref C) (t0 := t0) (dv := none) (c2 := .none) (c3 := .none) (b4 := .bool false) he hrest fun h' k e' _ => hq h' _ k e'
theorem sup_init {s : Shared} (T : SupTxt prog K mg C fI fld qual params msg scope dvs) {base : Heap} (MO : Mod K mg base) (hbs : ∀ b o, base.get? b = some o → s.heap.get? b = some o) {x t0 : Addr} {v : Value} {args : Args} (hx : s.heap.get? x = some (excO C t0)) (hnx : K.lookup x = none) (hroom : A.depth < recursionLimit)
    (hbind : ∀ fd, (∃ oc od osl, K.lookup fI = some ⟨oc, od, .func fd, osl⟩) → BindsTo s fd args [("self", .ref x), (fld, v)]) (hmsg : MsgOk prog w mg scope fld msg v)
    (hq : ∀ h' tk dx, InitEnd s.heap h' x C dx fld v → R (.ok (.ret .none)) { s with heap := h', toks := tk }) :
    codeAny (model prog w) A (.call (.ref fI) args) R s := by
  have X : K.In s.heap := MO.kin.keeps hbs
  obtain ⟨oc, od, dV, kV, doc, pm, an, cda, cc, ct, osl, q1, q2, q3, q4, q5, q6, q7, q8, q9, ccl, cdd, vs, ccs, file, tf, cl, cld, csl, ho, hcd, hcode, hvs, hfile, hcell, hdv, hline⟩ := T.fn
  obtain ⟨nm, q, N, bs, bm, sn, sub, ab, col, dd, k0, k1, k2, k3, k5, hC, hbm⟩ := T.cls
  obtain ⟨p1, p2, dfl, rfl, _⟩ := T.par
  obtain ⟨mb, hmb, hmb2⟩ := MO.blt
  have hcl : clsIn K C = some { name := nm, bases := bs, mro := .ref C :: bm, ns := N, qualname := q, hasDict := true, slotNames := sn, subclasses := sub, abstract := ab, collection := col, hasDel := false } := by unfold clsIn; rw [hC] <;> rfl
  refine ks_codeAny_call_defAt (body := xBody fld msg q1 q2 q3 q4 q5 q6 q7 q8 q9) (binds := [("self", .ref x), (fld, v)]) hroom (X _ _ ho) rfl (MO.nolimit.keeps hbs) (codeRec_of X hcd) rfl (hbind _ ⟨_, _, _, ho⟩) T.sc (fun y hy => ?_) (fun h₁ hns hk₁ => ?_) T.sco T.sge T.sk
  · rcases List.mem_cons.mp hy with rfl | hy
    · exact T.s1
    · rcases List.mem_cons.mp hy with rfl | hy
      · exact T.s2
      · cases hy
  have X₁ : K.In h₁ := X.keeps hk₁
  have hx₁ := hk₁ _ _ hx
  have hb₁ : ∀ b o, base.get? b = some o → h₁.get? b = some o := fun b o e => hk₁ _ _ (hbs b o e)
  have hxL : x ≠ s.heap.objs.size := Nat.ne_of_lt (Heap.lt_size hx)
  have ms : ([("self", Value.ref x), (fld, v)] : List (Str × Value)).reverse.lookup ("self" : Str) = some (.ref x) := by
    have : (("self" : Str) == fld) = false := by simpa using fun z => T.fS.1 z.symm
    simp [List.lookup, this]
  have mf : ([("self", Value.ref x), (fld, v)] : List (Str × Value)).reverse.lookup fld = some v := by simp [List.lookup]
  have hint : interactive (ksEnv qual scope s.heap.objs.size fI (.ref cda) cc) = false := by unfold interactive; show (scope.kind == _ && _) = false; rw [T.sk]; rfl
  refine ks_wpAt_execs_cons (ks_wpAt_Expr_any (ks_wpAt_MethodCall (pl := (do return (← importBound (.Call (.Name "super" q1) [] [] q2) (ksEnv qual scope s.heap.objs.size fI (.ref cda) cc)).getD true)) ?_ ?_) hint rfl)
  rotate_left
  · show (do
      let ov ← attributeBase _ _ _ (eval _ _)
      standAt q3.atName
      methodCall _ _ q3 q4 _ ov ([msg].length + ([] : List Keyword).length) (backTo q4 (starEach [msg] _)) (backToKw q4 (keywordEach [] _))) = _
    unfold methodCall calleeOf methodCallPos
    rw [form_true (es := [msg]) (kws := []) (ks := []) (by simp [noStar, T.ns]) rfl (by simp), hline]
    rfl
  refine ks_wpAt_super_base (env := ksEnv qual scope s.heap.objs.size fI (.ref cda) cc) (ar := { arg := "self", annotation := none, pos := p1 }) T.s3 T.s4 rfl rfl (X₁ _ _ ho) rfl rfl rfl (X₁ _ _ hcode) rfl hvs hfile T.top ?_
  refine ks_loadName_global T.sk T.s3 (Calls.loadGlobal_builtin (env := ksEnv qual scope s.heap.objs.size fI (.ref cda) cc) (MO.glob.keeps hb₁) T.noS (hmb.keeps hb₁) ((hmb2 _ (by decide)).trans (show bootBuiltins "super" = some (.type "super") by first | rfl | kernel_rfl)) ⟨rfl, ?_⟩)
  refine wpAny_loadName_free T.sk T.s4 rfl ⟨_, X₁ _ _ hcell, rfl⟩ ?_
  refine wpAny_loadName_local T.sk T.s1 hns ms ?_
  have hC₁ := X₁ _ _ hC
  refine ks_wpAny_isType_cls hC₁ rfl ⟨rfl, ?_⟩
  refine ks_wpAny_call_super hC₁ rfl hx₁ rfl (fun c e => nomatch e) (looks_mroIn X₁ T.mro) (fun h₂ e₂ k₂ => ?_)
  have X₂ : K.In h₂ := X₁.keeps k₂
  have hx₂ := k₂ _ _ hx₁
  have I₂ : InstAt h₂ x (excO C t0) C none := ⟨hx₂, rfl, rfl, trivial⟩
  have hsup := T.sup
  unfold ks_superIn at hsup
  rw [hcl] at hsup
  refine kxs_getMethod kxs_ValueError e₂ (looks_opaque X₂ T.opq) (l₀ := .ref C :: bm) (fun A Q E s k q => wpAny_bind ((looks_clsIn X₂ hcl) A _ E s k (wpAny_pure q))) rfl X₂ hsup (I₂.type.andThen (looks_subIn X₂ T.veC)) (ks_ne X₂ I₂ hcl) (by decide) ?_
  refine kxs_callWith (i := "ValueError.__init__") (x := x) (by rw [star_cons T.ns]; rfl) ?_
  rw [star_cons T.ns]
  refine Calls.evalArgs_plain (Calls.spliced_cons ?_)
  have k₃ : ∀ b o, h₁.get? b = some o → (h₂.push (kxs_mw "ValueError.__init__" x)).get? b = some o := fun b o e => Heap.get?_push_of_some _ (k₂ b o e)
  obtain ⟨oL, esL, epL, hL, rL⟩ := hns
  have hb₃ : ∀ b o, base.get? b = some o → (h₂.push (kxs_mw "ValueError.__init__" x)).get? b = some o := fun b o e => k₃ _ _ (hb₁ b o e)
  refine hmsg _ _ _ _ _ _ rfl T.sk T.s2 ⟨oL, esL, epL, k₃ _ _ hL, rL⟩ mf (MO.glob.keeps hb₃) ⟨mb, hmb.keeps hb₃, hmb2⟩ fun u tk => ?_
  refine Calls.spliced_nil ⟨Heap.get?_push_size _ rfl, ?_⟩
  have X₃ : K.In (h₂.push (kxs_mw "ValueError.__init__" x)) := X₁.keeps k₃
  refine call_mw (X₃ _ _ hC) (k₃ _ _ hx₁) (Heap.get?_push_size _ rfl) (by rw [sizeLine_eq]; simp) fun h₄ t1 k₄ hx₄ => ?_
  -- self.f = f
  show PySem.wpAt _ _ _ (execs _ _) _ _ _
  refine wpAt_of_wpAny (wpAny_execs_cons (plainObj_wpAny_Assign_Attribute ?_ rfl))
  have hL₄ : h₄.Ns s.heap.objs.size (fun y => ([("self", Value.ref x), (fld, v)] : List (Str × Value)).reverse.lookup y) := ⟨oL, esL, epL, k₄ _ _ hxL.symm (k₃ _ _ hL), rL⟩
  have X₄ : K.In h₄ := fun a o e => k₄ a o (fun z => by rw [z, hnx] at e; cases e) (X₃ a o e)
  refine wpAny_Name (wpAny_loadName_local T.sk T.s2 hL₄ mf ?_) T.fS.2
  refine wpAny_Name (wpAny_loadName_local T.sk T.s1 hL₄ ms ?_) (by decide)
  refine set_plain X₄ (ox := excO C t1) (od := none) ⟨hx₄, rfl, rfl, trivial⟩ T.sa ?_
  refine exc_osa X₄ hx₄ hcl (show refsVE (.ref C :: bm) = true from hbm) rfl T.noN (fun h₅ tk₅ dx k₅ dn dne hx₅ hn₅ => ?_)
  show wpAny _ _ (execs _ _) _ _ _
  refine wpAny_execs_nil (hq h₅ tk₅ dx ⟨fun b o hb e => k₅ b o hb (k₄ b o hb (k₃ b o (hk₁ b o e))), ⟨_, hx₅⟩, ?_, dne, hn₅⟩)
  have dn : h₄.objs.size ≤ dx := dn
  have z2 : s.heap.objs.size < h₄.objs.size := Heap.lt_size (k₄ _ _ hxL.symm (k₃ _ _ hL))
  omega
/-- the arguments: all given, or the default -/
theorem sup_bind1 {s : Shared} {fd : FuncData} {x : Addr} {v : Value} (T : SupTxt prog K mg C fI fld qual params msg scope dvs) (X : K.In s.heap) (hf : ∃ oc od osl, K.lookup fI = some ⟨oc, od, .func fd, osl⟩) (hd : dvs.length ≤ 1) :
    BindsTo s fd ⟨[.ref x, v], []⟩ [("self", .ref x), (fld, v)] := by
  obtain ⟨oc, od, dV, kV, doc, pm, an, cda, cc, ct, osl, q1, q2, q3, q4, q5, q6, q7, q8, q9, ccl, cdd, vs, ccs, file, tf, cl, cld, csl, ho, hcd, hcode, hvs, hfile, hcell, hdv, hline⟩ := T.fn
  have hb := T.bd
  obtain ⟨_, _, _, hf⟩ := hf
  rw [ho] at hf
  simp only [Option.some.injEq, Obj.mk.injEq, Data.func.injEq] at hf
  obtain ⟨_, _, rfl, _⟩ := hf
  refine BindsTo.of_looks fun M => ?_
  rcases hdv with ⟨rfl, rfl⟩ | ⟨hne, Ta, o, its, n, rfl, lT, oT, r⟩
  · exact PySem.W.Looks.of_pure (hb ..)
  · cases dvs with
    | nil => exact absurd rfl hne
    | cons d dr =>
      cases dr with
      | cons _ _ => simp at hd
      | nil =>
        cases r with
        | @cons _ u _ _ ru rn =>
          cases rn
          obtain ⟨k, e1, e2⟩ := (hb (xBody fld msg q1 q2 q3 q4 q5 q6 q7 q8 q9) Ta kV doc pm an (.ref cda) ct cc (.ref x) u).1 v
          rw [e1]
          exact looks_items X lT oT (.of_pure e2)
theorem sup_bind0 {s : Shared} {fd : FuncData} {x : Addr} (T : SupTxt prog K mg C fI fld qual params msg scope [.non]) (X : K.In s.heap) (hf : ∃ oc od osl, K.lookup fI = some ⟨oc, od, .func fd, osl⟩) :
    BindsTo s fd ⟨[.ref x], []⟩ [("self", .ref x), (fld, .none)] := by
  obtain ⟨oc, od, dV, kV, doc, pm, an, cda, cc, ct, osl, q1, q2, q3, q4, q5, q6, q7, q8, q9, ccl, cdd, vs, ccs, file, tf, cl, cld, csl, ho, hcd, hcode, hvs, hfile, hcell, hdv, hline⟩ := T.fn
  have hb := T.bd
  obtain ⟨_, _, _, hf⟩ := hf
  rw [ho] at hf
  simp only [Option.some.injEq, Obj.mk.injEq, Data.func.injEq] at hf
  obtain ⟨_, _, rfl, _⟩ := hf
  refine BindsTo.of_looks fun M => ?_
  rcases hdv with ⟨e, _⟩ | ⟨_, Ta, o, its, n, rfl, lT, oT, r⟩
  · cases e
  · cases r with
    | cons ru rn =>
      cases rn
      cases ru
      obtain ⟨k, e1, e2⟩ := (hb (xBody fld msg q1 q2 q3 q4 q5 q6 q7 q8 q9) Ta kV doc pm an (.ref cda) ct cc (.ref x) .none).2
      rw [e1]
      exact looks_items X lT oT (.of_pure e2)
end
/-! ### messages -/
section
variable {P : Program} {w : World} {mg : Str → Option Value} {sc : Scope} {fld : Str} {v : Value}
/-- 'a' if f is None else 'b' + f -/
theorem msg_str {a b : Str} {k1 k2 k3 : Nat} {p1 p2 p3 p4 p5 p6 p7 p8 : Pos} {y : Str} {t : Tok} (hd : (fld == ("__debug__" : Str)) = false) (hz : b.length + y.length ≤ sizeLine) :
    MsgOk P w mg sc fld (.IfExp (.Compare (.Name fld p1) [.Is] [.Constant .none k1 p2] p3) (.Constant (.str a) k2 p4) (.BinOp (.Constant (.str b) k3 p5) .Add (.Name fld p6) p7) p8) (.str y t) := by
  intro A E s env m Q hsc hk hl hn hv hG hB hq
  refine wpAny_IfExp (wpAny_isTrue_Compare1 (wpAny_Name (wpAny_loadName_local hk hl hn hv (wpAny_Constant_none (wpAny_is_other rfl (fun z => nomatch z) (wpAny_truthy_bool ?_)))) hd) rfl)
  rw [if_neg Bool.false_ne_true]
  exact wpAny_BinOp (wpAny_Constant_str (wpAny_Name (wpAny_loadName_local hk hl hn hv (add_str (fun t' tk => hq _ _) hz)) hd))
/-- 'a' if f is None else 'b' + str(f) -/
theorem msg_int {a b : Str} {k1 k2 k3 : Nat} {p1 p2 p3 p4 p5 p6 p7 p8 p9 p10 : Pos} {n : Int} {t : Tok} (hd : (fld == ("__debug__" : Str)) = false) (hs : sc.names.lookup ("str" : Str) = some .globalImplicit) (hm : mg "str" = none) (hz : n.natAbs.log2 < 1920) (hb : b.length ≤ 100) (hl2 : (Str.ofString (toString n)).length ≤ 1000) :
    MsgOk P w mg sc fld (.IfExp (.Compare (.Name fld p1) [.Is] [.Constant .none k1 p2] p3) (.Constant (.str a) k2 p4) (.BinOp (.Constant (.str b) k3 p5) .Add (.Call (.Name "str" p9) [.Name fld p6] [] p10) p7) p8) (.int n t) := by
  intro A E s env m Q hsc hk hl hn hv hG hB hq
  obtain ⟨mb, hb1, hb2⟩ := hB
  refine wpAny_IfExp (wpAny_isTrue_Compare1 (wpAny_Name (wpAny_loadName_local hk hl hn hv (wpAny_Constant_none (wpAny_is_other rfl (fun z => nomatch z) (wpAny_truthy_bool ?_)))) hd) rfl)
  rw [if_neg Bool.false_ne_true]
  refine wpAny_BinOp (wpAny_Constant_str (wpAny_Call_Name_kw (wpAny_Name (PySem.W.ks_loadName_global hk (by unfold Env.kindOf; rw [hsc]; exact hs) (Calls.loadGlobal_builtin hG hm hb1 ((hb2 _ (by decide)).trans (show bootBuiltins "str" = some (.type "str") by decide +kernel)) ?_)) (by decide))))
  refine PyProof.Rows.callWith_type1 (e := .Name fld p6) (rest := []) (Calls.spliced_cons (wpAny_Name (wpAny_loadName_local hk hl hn hv (Calls.spliced_nil ?_)) hd)) rfl rfl
  exact PySem.P.str_of_int hz (add_str (fun t' tk => hq _ _) (by rw [sizeLine_eq]; omega))
theorem msg_none {a : Str} {e : Expr} {k1 k2 : Nat} {p1 p2 p3 p4 p8 : Pos} (hd : (fld == ("__debug__" : Str)) = false) :
    MsgOk P w mg sc fld (.IfExp (.Compare (.Name fld p1) [.Is] [.Constant .none k1 p2] p3) (.Constant (.str a) k2 p4) e p8) .none := by
  intro A E s env m Q hsc hk hl hn hv hG hB hq
  refine wpAny_IfExp (wpAny_isTrue_Compare1 (wpAny_Name (wpAny_loadName_local hk hl hn hv (wpAny_Constant_none (wpAny_is_self rfl (wpAny_truthy_bool ?_)))) hd) rfl)
  rw [if_pos rfl]
  exact wpAny_Constant_str (hq _ _)
end
/-! ### made, raised -/
section
open PySem.W PySem.HandSPX
variable {T : Tb} {N : List Str} {sc : Scope} {W : WX} {k : Nat} {fb : Bool} {X : Cx} {O A : AP} {H0 H H' : Hp} {σ : L2.St} {ρ : Rho} {fld qual : Str} {params : Arguments} {msg : Expr} {scope : Scope} {dvs : List V} {C fI : Addr}
theorem relO_one {v : V} {v' : Value} (r : RelV v v') (f : Str) : RelO (List.lookup f [(fld, v)]) (if f = fld then some v' else none) := by
  by_cases hw : f = fld
  · subst hw
    rw [if_pos rfl]
    have q : List.lookup f [(f, v)] = some v := by simp [List.lookup]
    rw [q]
    exact r
  · rw [if_neg hw]
    have qw : (f == fld) = false := by simpa using hw
    have q2 : List.lookup f [(fld, v)] = none := by simp [List.lookup, qw]
    rw [q2]
    trivial
/-- the call of the class: vs the written arguments, v what the field gets -/
theorem sup_made {pins : List (Addr × Obj)} {s1 : Shared} {H1 : Hp} {Q : XK} {us : List Value} {v' : Value} {v : V} (Tx : SupTxt X.prog X.K X.mg C fI fld qual params msg scope dvs) (hr : Room k X.A) (I1 : Inv X pins σ H1 s1) (hus : us.length ≤ 10)
    (hb : ∀ (s : Shared) (x : Addr) (fd : FuncData), X.K.In s.heap → (∃ oc od osl, X.K.lookup fI = some ⟨oc, od, .func fd, osl⟩) → BindsTo s fd ⟨.ref x :: us, []⟩ [("self", .ref x), (fld, v')]) (rv : RelV v v') (hm : MsgOk X.prog X.w X.mg scope fld msg v')
    (q : ∀ d, H1 d = none → Q (.ref C) (some d) (upd H1 d (.xd [(fld, v)]))) : wpAny (model X.prog X.w) X.A (call (.ref C) us) (MkP X pins σ Q) X.xe s1 := by
  obtain ⟨nm, qq, NN, bs, bm, sn, sub, ab, col, dd, k0, k1, k2, k3, k5, hC, hbm⟩ := Tx.cls
  have XK := I1.kIn
  have hbs : ∀ b o, X.base.get? b = some o → s1.heap.get? b = some o := fun b o e => (I1.env0.bs b o e).1
  obtain ⟨hp, g, dr, tk, os⟩ := s1
  have kk : ∀ b o, hp.get? b = some o → ((hp.push (kdv_tup us)).push (excO C hp.objs.size)).get? b = some o := fun b o e => Heap.get?_push_of_some _ (Heap.get?_push_of_some _ e)
  have hget : ((hp.push (kdv_tup us)).push (excO C hp.objs.size)).get? (hp.objs.size + 1) = some (excO C hp.objs.size) := by heap_get
  have hnx : X.K.lookup (hp.objs.size + 1) = none := by
    cases e : X.K.lookup (hp.objs.size + 1) with
    | none => rfl
    | some o =>
      have z : hp.get? (hp.objs.size + 1) = some o := XK _ _ e
      exact absurd (Nat.lt_of_succ_lt (Heap.lt_size z)) (Nat.lt_irrefl _)
  refine wpAny_call (call_own F.excBase_ValueError (fun Y => refsVE_contains Y bm hbm) (XK _ _ hC) (looks_findIn XK Tx.iC) (fun self => bind_fn XK self Tx.tC) (by rw [sizeLine_eq]; omega) ?_)
  refine sup_init (s := ⟨(hp.push (kdv_tup us)).push (excO C hp.objs.size), g, dr, tk, os⟩) Tx I1.ok.mod (fun b o e => kk _ _ (hbs b o e)) hget hnx ?_ (fun fd hf => hb _ _ fd (XK.keeps kk) hf) hm fun h' tk' dx ⟨k', ⟨t1, hx⟩, dn, dne, hns⟩ => ?_
  · show X.A.depth + 1 < recursionLimit
    have := hr.dp
    omega
  · have old : ∀ b o, hp.get? b = some o → h'.get? b = some o := fun b o e => k' b o (Nat.ne_of_lt (Nat.lt_succ_of_lt (Heap.lt_size e))) (kk b o e)
    have z : hp.objs.size + 1 + 1 ≤ dx := by
      first
        | (simpa only [Heap.size_push] using dn)
        | exact dn
    refine ⟨rfl, ?_⟩
    show MkP X pins σ Q (.ref (hp.objs.size + 1)) ⟨h', g, dr, tk', os⟩
    obtain ⟨G', g1, g2⟩ := restrict h' fun b => decide (b ≠ hp.objs.size + 1)
    have gk : ∀ b, b ≠ hp.objs.size + 1 → G'.get? b = h'.get? b := fun b hb => g1 b (decide_eq_true hb)
    have ge : G'.get? (hp.objs.size + 1) = none := g2 _ (by simp)
    have old' : ∀ b o, hp.get? b = some o → G'.get? b = some o := fun b o q => (gk b (Nat.ne_of_lt (Nat.lt_succ_of_lt (Heap.lt_size q)))).trans (old b o q)
    have dbig : hp.objs.size ≤ dx := by omega
    have ob : ObjOk X.prog X.w (upd H1 dx (.xd [(fld, v)])) G' dx (.xd [(fld, v)]) := ⟨_, hns.at (fun o q => (gk dx dne).trans q), fun f => relO_one rv f⟩
    have J : Inv X pins σ (upd H1 dx (.xd [(fld, v)])) ⟨G', g, dr, tk', os⟩ := I1.laid (t' := tk') old' dbig ob
    refine ⟨hp.objs.size + 1, _, _, ⟨G', g, dr, tk', os⟩, _, .ref C, some dx, rfl, J, fun b o q => ?_, ge, hx, ⟨rfl, rfl⟩, rfl, rfl, ?_, rfl, I1.bare, raises_own Tx.exC Tx.tyC, q dx (I1.hok.fresh dbig)⟩
    · by_cases hb : b = hp.objs.size + 1
      · have q' : G'.get? b = some o := q
        rw [hb, ge] at q'; cases q'
      · exact (gk b hb).symm.trans q
    · rw [upd_ne (Ne.symm dne)]
      exact I1.hok.fresh (Nat.le_succ _)
end
end BV
set_option Elab.async false
set_option linter.all false
set_option maxRecDepth 100000
set_option maxHeartbeats 1000000
namespace BV
open PySem L2 PySem.Spec PyProof.Rows
open Evl (Ex)
section
variable {T : Tb} {N : List Str} {sc : Scope} {W : WX} {k : Nat} {fb : Bool} {X : Cx} {O A : AP} {H0 H H' : Hp} {σ : L2.St} {ρ : Rho} {De : Ends} {fld qual : Str} {params : Arguments} {msg : Expr} {scope : Scope} {dvs : List V} {C fI : Addr} {e : Expr} {x : Str} {p p2 pos : Pos} {f : Rho → R D} {c : Nat}
/-- what a message can be made of -/
def MsgD (T : Tb) (scope : Scope) (fld : Str) (msg : Expr) (okd : D → Bool) : Prop := ∀ d A H v u, okd d = true → Den T A H d v → RelV v u → MsgOk T.prog T.w T.mg scope fld msg u
theorem tE_mono {σ : L2.St} {H : Hp} {K' : VK} (h : tB T W f σ H K') : tCons (tB T W f) tNil σ H (fun vs H1 => ∃ v, vs = [v] ∧ K' v H1) := by
  obtain ⟨H0, O, ρ, r, p⟩ := h
  refine ⟨H0, O, ρ, r, ?_⟩
  generalize f ρ = r0 at p ⊢
  induction r0 with
  | ok d => exact fun v H1 e1 hd => ⟨v, rfl, p v H1 e1 hd⟩
  | err c fs => exact p
  | stuck => exact p
  | any k0 ih => exact fun i => ih i (p i)
theorem pmk_sup1 (Tx : SupTxt X.prog X.K X.mg C fI fld qual params msg scope dvs) (hdl : dvs.length ≤ 1) (C0 : Cok T N sc W k fb X) {okd : D → Bool} (hm : MsgD T scope fld msg okd) (hg : Gl X x) (hx : X.mg x = some (.ref C)) (hdb : (x == ("__debug__" : Str)) = false) (he : PE X e (tB T W f)) (h1 : isStar e = false) :
    PMk X (.Call (.Name x p) [e] [] pos) (fun σ H Q => tB T W f σ H fun v H1 => (∃ A d, okd d = true ∧ Den T A H1 d v) ∧ ∀ dd, H1 dd = none → Q (.ref C) (some dd) (upd H1 dd (.xd [(fld, v)]))) := by
  intro pins s σ H Q I h
  refine wpAny_Call_Name_kw (ld_glob I hg hx ?_ hdb)
  have ha : PA X [e] (tCons (tB T W f) tNil) := pa_cons he pa_nil (star_cons h1)
  refine PySem.W.callWith_K (h₀ := X.base) I.ok.mod.kin Tx.kC (thn (ha.run pos pins s σ H (fun vs H1 => ∃ v, vs = [v] ∧ (∃ A d, okd d = true ∧ Den T A H1 d v) ∧ ∀ dd, H1 dd = none → Q (.ref C) (some dd) (upd H1 dd (.xd [(fld, v)]))) I ?_) fun us s1 hh => ?_) (star_cons h1) rfl
  · exact tE_mono h
  · obtain ⟨vs, H1, I1, r1, v, rfl, ⟨A, d, hd1, hd2⟩, q1⟩ := hh
    refine ⟨I1.kIn, ?_⟩
    cases r1 with
    | @cons _ v' _ us' rv rn =>
      cases rn
      show wpAny _ _ (call (.ref C) [v']) _ _ _
      exact sup_made Tx C0.room I1 (by simp) (fun s x fd XK hf => sup_bind1 Tx XK hf hdl) rv (by have := hm d A H1 v v' hd1 hd2 rv; rw [C0.hP, C0.hw, C0.hmg]; exact this) q1
def raise1 (c : Nat) (okd : D → Bool) (f : Rho → R D) : Rho → Out := fun ρ => ofR (f ρ) ρ fun d => if okd d then .err c [d] ρ else .stuck
theorem bs_raise1 (S : Sok T N sc W k X) (Tx : SupTxt T.prog T.K T.mg (T.cls c) fI fld qual params msg scope dvs) (hdl : dvs.length ≤ 1) (hfl : T.flds c = [fld]) {okd : D → Bool} (hm : MsgD T scope fld msg okd) (hg : Gl X x) (hx : X.mg x = some (.ref (T.cls c))) (hdb : (x == ("__debug__" : Str)) = false)
    (he : PE X e (tB T W f)) (h1 : isStar e = false) : PS X (.Raise (some (.Call (.Name x p) [e] [] p2)) none pos) (tS T W (raise1 c okd f)) := by
  have Tx' : SupTxt X.prog X.K X.mg (T.cls c) fI fld qual params msg scope dvs := by rw [S.C.hP, S.C.hK, S.C.hmg]; exact Tx
  refine ps_imp (ps_raise S.C.calm S.C.tk (pmk_sup1 Tx' hdl S.C hm hg hx hdb he h1)) fun De σ H ⟨H0, O, ρ, r, p⟩ => ?_
  refine tB.stmt r p fun d v H1 e1 r1 d1 p1 => ?_
  split at p1
  · rename_i hd
    refine ⟨⟨_, d, hd, d1⟩, fun dd hn => ?_⟩
    have ex : Ex H1 (upd H1 dd (.xd [(fld, v)])) := Ex.new hn
    refine p1 (some dd) σ _ (r1.mono ex) ⟨dd, [v], rfl, ?_, ?_, .cons (d1.ex ex) .nil⟩
    · rw [upd_same, hfl]; rfl
    · rw [hfl]; rfl
  · exact p1.elim
/-- raise C(), the field None -/
def raise0 (c : Nat) : Rho → Out := fun ρ => .err c [.non] ρ
theorem bs_raise0 (S : Sok T N sc W k X) (Tx : SupTxt T.prog T.K T.mg (T.cls c) fI fld qual params msg scope [.non]) (hfl : T.flds c = [fld]) (hm : MsgOk T.prog T.w T.mg scope fld msg .none) (hg : Gl X x) (hx : X.mg x = some (.ref (T.cls c))) (hdb : (x == ("__debug__" : Str)) = false) :
    PS X (.Raise (some (.Call (.Name x p) [] [] p2)) none pos) (tS T W (raise0 c)) := by
  have Tx' : SupTxt X.prog X.K X.mg (T.cls c) fI fld qual params msg scope [.non] := by rw [S.C.hP, S.C.hK, S.C.hmg]; exact Tx
  have mk : PMk X (.Call (.Name x p) [] [] p2) (fun σ H Q => ∀ dd, H dd = none → Q (.ref (T.cls c)) (some dd) (upd H dd (.xd [(fld, .non)]))) := by
    intro pins s σ H Q I h
    refine wpAny_Call_Name_kw (ld_glob I hg hx ?_ hdb)
    refine PySem.W.callWith_K0 I.kIn Tx'.kC ?_
    exact sup_made Tx' S.C.room I (by simp) (fun s x fd XK hf => sup_bind0 Tx' XK hf) (show RelV V.non Value.none from rfl) (by rw [S.C.hP, S.C.hw, S.C.hmg]; exact hm) h
  refine ps_imp (ps_raise S.C.calm S.C.tk mk) fun De σ H ⟨H0, O, ρ, r, p⟩ dd hn => ?_
  have ex : Ex H (upd H dd (.xd [(fld, .non)])) := Ex.new hn
  refine p (some dd) σ _ (r.mono ex) ⟨dd, [.non], rfl, ?_, ?_, .cons (by simp [Den]) .nil⟩
  · rw [upd_same, hfl]; rfl
  · rw [hfl]; rfl
/-- raise C('..'), C without an own __init__ -/
def raiseP (c : Nat) : Rho → Out := fun ρ => .err c [] ρ
theorem bs_raiseP {m : Str} {j : Nat} {p3 : Pos} (S : Sok T N sc W k X) (q : PySem.W.excIn T.K (T.cls c) PySem.HandSPX.veTail "ValueError.__new__" = true) (kC : PySem.W.keepIn T.K (.ref (T.cls c)) = true) (h1 : PySem.W.subIn T.K (.ref (T.cls c)) (.type "BaseException") = some true) (h2 : PySem.W.typeIn T.K (.ref (T.cls c)) = some (.type "type"))
    (hfl : T.flds c = []) (hg : Gl X x) (hx : X.mg x = some (.ref (T.cls c))) (hdb : (x == ("__debug__" : Str)) = false) :
    PS X (.Raise (some (.Call (.Name x p) [.Constant (.str m) j p3] [] p2)) none pos) (tS T W (raiseP c)) :=
  ps_imp (ps_raise S.C.calm S.C.tk (pmk_own F.excBase_ValueError (by rw [S.C.hK]; exact q) hx (by rw [S.C.hK]; exact kC) (raises_own (by rw [S.C.hK]; exact h1) (by rw [S.C.hK]; exact h2)) hg hdb)) fun De σ H ⟨H0, O, ρ, r, p⟩ =>
    p none σ H r ⟨rfl, hfl⟩
/-! ### try .. except C: return const; try .. except C as e: return e.f -/
/-- who is caught: the classes that may come, by number -/
def tryO (cs : List Nat) (cat : Nat → Bool) (G : List D → Rho → Out) : Out → Out
  | .err c fs ρ' => if cs.contains c then (if cat c then G fs ρ' else .err c fs ρ') else .stuck
  | .nx ρ => .nx ρ
  | .rt d => .rt d
  | .bk ρ => .bk ρ
  | .ct ρ => .ct ρ
  | .stuck => .stuck
  | .any q => .any fun i => tryO cs cat G (q i)
def tryF (cs : List Nat) (cat : Nat → Bool) (F : Rho → Out) (G : List D → Rho → Out) : Rho → Out := fun ρ => tryO cs cat G (F ρ)
theorem bs_tryC {body : List Stmt} {xv : Value} {v : V} {d0 : D} {cs : List Nat} {cat : Nat → Bool} {F : Rho → Out} {np p3 p4 : Pos} (S : Sok T N sc W k X) (hc : Names X x xv) (hcat : ∀ c ∈ cs, PySem.W.exmOne T.K (.ref (T.cls c)) xv = some (cat c))
    (hb : ∀ (W' : WX) (X' : Cx), Sok T N sc W' k X' → X'.env = X.env → PSs X' body (tS T W' F)) (he : ∀ X' : Cx, PE X' e (tC v)) (hd : ∀ A H, Den T A H d0 v) :
    PS X (.Try body [.ExceptHandler (some (.Name x np)) none [.Return (some e) p3] p4] [] [] pos) (tS T W (tryF cs cat F fun _ _ => .rt d0)) := by
  refine ps_imp (ps_try_only (tb := fun W' => tS T W' F) (ts := fun _ _ _ => tRet (tC v)) S.hs S.hf hc S.C.tk (fun W' pn xe tk po => hb W' _ ⟨⟨S.C.hP, S.C.hw, S.C.hmg, S.C.hbase, S.C.hfn, S.C.hK, S.C.nd, S.C.hN, S.C.hsc, S.C.calm, tk, S.C.room⟩, po, S.hs, S.hf⟩ rfl)
    (fun a oe cls d pn hz hf => pss_one (ps_ret (he _)))) fun De σ H ⟨H0, O, ρ, r, p⟩ => ⟨H0, O, ρ, r, ?_⟩
  unfold tryF at p
  generalize F ρ = o at p ⊢
  induction o with
  | any k0 ih => exact fun i => ih i (p i)
  | err c fs ρ' =>
    simp only [tryO] at p
    split at p
    · rename_i hcs
      intro y σ1 H1 r1 hd1
      refine ⟨cat c, by rw [S.C.hK]; exact hcat c (by simpa using hcs), fun hb => ?_, fun hb => ?_⟩
      · rw [if_pos hb] at p
        intro a ha
        exact p v H1 r1.ex r1.dom (hd _ _)
      · rw [if_neg (by rw [hb]; exact Bool.false_ne_true)] at p
        exact p y σ1 H1 r1 hd1
    · exact p.elim
  | nx ρ' => exact p
  | rt d => exact p
  | bk ρ' => exact p
  | ct ρ' => exact p
  | stuck => exact p
theorem bs_tryF {body : List Stmt} {cx i : Nat} {cs : List Nat} {cat : Nat → Bool} {F : Rho → Out} {n : Str} {np p3 p4 p5 p6 : Pos} (S : Sok T N sc W k X) (hi : N[i]? = some n) (hln : sc.names.lookup n = some .local) (hnd : (n == ("__debug__" : Str)) = false) (hncd : (n == ("__classdict__" : Str)) = false) (hc : Names X x (.ref (T.cls cx))) (hcat : ∀ c ∈ cs, PySem.W.exmOne T.K (.ref (T.cls c)) (.ref (T.cls cx)) = some (cat c)) (hcx : ∀ c ∈ cs, cat c = true → c = cx)
    (hfl : T.flds cx = [fld]) (hX : XfC T.K (T.cls cx)) (hno : PySem.W.findIn T.K (.ref (T.cls cx)) fld = some none)
    (hb : ∀ (W' : WX) (X' : Cx), Sok T N sc W' k X' → X'.env = X.env → PSs X' body (tS T W' F)) :
    PS X (.Try body [.ExceptHandler (some (.Name x np)) (some n) [.Return (some (.Attribute (.Name n p5) fld p6)) p3] p4] [] [] pos) (tS T W (tryF cs cat F fun fs ρ' => match fs with | [d] => if i < ρ'.length then .rt d else .stuck | _ => .stuck)) := by
  have hvis : Vis sc n := .inl hln
  refine ps_imp (ps_try_as (i := i) (tb := fun W' => tS T W' F) (ts := fun a cls d => tRet (tXf a cls d (T.cls cx) fld (tVar i))) S.hs S.hf (by rw [S.C.hN]; exact S.C.nd) (by rw [S.C.hN]; exact hi) (by show X.env.scope.names.lookup n = _; rw [S.C.hsc]; exact hln) hc S.C.tk
    (fun W' pn xe tk po => hb W' _ ⟨⟨S.C.hP, S.C.hw, S.C.hmg, S.C.hbase, S.C.hfn, S.C.hK, S.C.nd, S.C.hN, S.C.hsc, S.C.calm, tk, S.C.room⟩, po, S.hs, S.hf⟩ rfl)
    (fun a oe cls d pn hz hf => pss_one (ps_ret (pe_xf (by rw [S.C.hK]; exact hX) (by rw [S.C.hK]; exact hno) hz hf (pe_var (i := i) (by show X.N[i]? = _; rw [S.C.hN]; exact hi) (by show Vis X.env.scope n; rw [S.C.hsc]; exact hvis) hnd hncd))))) fun De σ H ⟨H0, O, ρ, r, p⟩ => ⟨H0, O, ρ, r, ?_⟩
  unfold tryF at p
  generalize F ρ = o at p ⊢
  induction o with
  | any k0 ih => exact fun i => ih i (p i)
  | err c fs ρ' =>
    simp only [tryO] at p
    split at p
    · rename_i hcs
      have hcs : c ∈ cs := by simpa using hcs
      intro y σ1 H1 r1 hd1
      refine ⟨cat c, by rw [S.C.hK]; exact hcat c hcs, fun hb => ?_, fun hb => ?_⟩
      · rw [if_pos hb] at p
        obtain rfl := hcx c hcs hb
        intro a ha
        split at p
        · rename_i d
          obtain ⟨dd, vs, rfl, h2, h3, h4⟩ := hd1
          simp only [Dens] at h4
          obtain ⟨v, rr, rfl, h5, rfl⟩ := h4
          rw [hfl] at h2
          split at p
          · rename_i hil
            rw [r1.len] at hil
            refine ⟨_, List.getElem?_set_self hil, rfl, rfl, dd, _, v, rfl, h2, by simp [List.lookup], ?_⟩
            exact p v H1 r1.ex r1.dom (h5.weak fun a z => .inl z)
          · exact p.elim
        · exact p.elim
      · rw [if_neg (by rw [hb]; exact Bool.false_ne_true)] at p
        exact p y σ1 H1 r1 hd1
    · exact p.elim
  | nx ρ' => exact p
  | rt d => exact p
  | bk ρ' => exact p
  | ct ρ' => exact p
  | stuck => exact p
end
theorem force_tryO : True := by
  have h1 := @tryO.eq_def
  have h2 := @tryO.eq_1
  trivial
end BV
set_option Elab.async false
set_option linter.all false
set_option maxRecDepth 100000
set_option maxHeartbeats 1000000
namespace BV
open PySem L2 PySem.Spec PyProof.Rows
open Evl (Ex)
section
variable {T : Tb} {N : List Str} {sc : Scope} {W : WX} {k : Nat} {fb : Bool} {X : Cx} {O A : AP} {H0 H H' : Hp} {σ : L2.St} {ρ : Rho} {De : Ends} {e : Expr} {x : Str} {p p2 pos : Pos} {f : Rho → R D} {c : Nat}
/-! ### a def's body -/
def startR (n : Nat) (ds : List D) : Rho := ds.map (fun d => some (false, d)) ++ List.replicate (n - ds.length) none
def outR (o : Out) : R D := match o with
  | .rt d => .ok d
  | .nx _ => .ok .non
  | .err c fs _ => .err c fs
  | .any q => .any fun i => outR (q i)
  | .bk _ => .stuck
  | .ct _ => .stuck
  | .stuck => .stuck
def runF (n : Nat) (F : Rho → Out) (ds : List D) : R D := outR (F (startR n ds))
theorem startR_get {n i : Nat} {ds : List D} {s : Slot} (h : (startR n ds)[i]? = some (some s)) : ∃ d, ds[i]? = some d ∧ s = (false, d) := by
  unfold startR at h
  by_cases hi : i < ds.length
  · rw [List.getElem?_append_left (by simpa using hi), List.getElem?_map, List.getElem?_eq_getElem hi] at h
    exact ⟨_, List.getElem?_eq_getElem hi, by simpa using h.symm⟩
  · rw [List.getElem?_append_right (by simpa using hi), List.getElem?_replicate] at h
    split at h <;> cases h
theorem start_get {i : Nat} {vs : List V} {v : V} (h : vs[i]? = some v) : (L2.start N vs)[i]? = some (some v) := by
  unfold L2.start
  have hi := (List.getElem?_eq_some_iff.mp h).1
  rw [List.getElem?_append_left (by simpa using hi), List.getElem?_map, h]
  rfl
theorem rel_start {ds : List D} {vs : List V} (dom : ∀ a, O a → H a ≠ none) (hd : Dens T O H ds vs) : Rel T H O (L2.start N vs) H (startR N.length ds) := by
  have hno : ∀ a, ¬ OwnA (L2.start N vs) (startR N.length ds) a := fun a ⟨i, d, h1, _⟩ => by
    obtain ⟨_, _, z⟩ := startR_get h1
    cases z
  have hav : ∀ a, Av O (L2.start N vs) (startR N.length ds) a → O a := fun a h => h.elim id fun z => (hno a z).elim
  refine ⟨Ex.refl H, dom, by simp [startR, L2.start, hd.length], fun i d h => ?_, fun i d h => ?_, fun i j d e a h1 => ?_⟩
  · obtain ⟨d', h1, z⟩ := startR_get h
    cases z
    obtain ⟨v, h2, h3⟩ := hd.get h1
    exact ⟨v, start_get h2, h3.weak hav⟩
  · obtain ⟨_, _, z⟩ := startR_get h
    cases z
  · obtain ⟨_, _, z⟩ := startR_get h1
    cases z
theorem sok_of {qual : Str} {f : Addr} {cd : Value} {A : Around} {outer : List Env} {s : Shared} {E : XK} (nd : N.Nodup) (hr : Room k (A.deeper (envOfC qual sc s.heap.objs.size f cd))) :
    Sok T N sc (fun cls d _ H => E cls d H) k (cxOf (L2.CX T.prog T.w) T.prog T.w T.K T.mg T.base N qual sc f cd A outer s H E) :=
  ⟨⟨rfl, rfl, rfl, rfl, fun _ _ => rfl, rfl, nd, rfl, rfl, rfl, takes_of rfl rfl rfl rfl, hr⟩, passes_of rfl, rfl, rfl⟩
theorem FnOk_of {y qual : Str} {params : Arguments} {body : List Stmt} {dvs : List V} {kws : List (Str × V)} {fa : Addr} {fd : FuncData} {ps : List Str} {F : Rho → Out} {n : Nat} (Fd : FunD T.K y qual params body sc dvs kws fa fd) (S : FnScope N ps sc) (hn : n = ps.length)
    (hb : ∀ (W : WX) (X : Cx), Sok T N sc W k X → PSs X body (tS T W F)) : FnOk T.prog T.w T.K T.mg T.base (L2.CX T.prog T.w) (k + 1) fa fd ps (spB T n (runF N.length F)) := by
  refine Fd.ok S (fun vs H Q E ⟨O, ds, _, hd, hl, _⟩ => by rw [hd.length, hl, hn]) fun cdv A outer s H vs Q E hr ⟨O, ds, dom, hd, hl, p⟩ => ⟨_, hb _ _ (sok_of S.nd hr), H, O, startR N.length ds, rel_start dom hd, ?_⟩
  unfold runF at p
  generalize F (startR N.length ds) = o at p ⊢
  induction o with
  | nx ρ => exact fun σ' H' r => p .non H' r.ex (by simp [Den])
  | rt d => exact fun v H' e dm q => p v H' e q
  | bk ρ => exact p.elim
  | ct ρ => exact p.elim
  | err c fs ρ => exact fun y σ' H' r q => p y H' r.ex (q.weak fun a z => .inl z)
  | stuck => exact p.elim
  | any k0 ih => exact fun i => ih i (p i)
/-! ### self.f = e, __init__ -/
theorem putF_zip : ∀ {names : List Str} {vs : List V} {g : Str} {v : V}, names.Nodup → names[vs.length]? = some g → putF g v (names.zip vs) = names.zip (vs ++ [v])
  | [], vs, g, v, _, h => by simp at h
  | a :: names, [], g, v, _, h => by
    simp only [List.length_nil, List.getElem?_cons_zero, Option.some.injEq] at h
    subst h
    simp [putF]
  | a :: names, w :: vs, g, v, hn, h => by
    simp only [List.length_cons, List.getElem?_cons_succ] at h
    have ne : a ≠ g := fun z => by
      subst z
      exact (List.nodup_cons.mp hn).1 (List.mem_of_getElem? h)
    simp only [List.zip_cons_cons, putF, if_neg ne, List.cons_append]
    rw [putF_zip (List.nodup_cons.mp hn).2 h]
def setfF (c j : Nat) (f : Rho → R D) : Rho → Out := fun ρ => ofR (f ρ) ρ fun d => match ρ[(0 : Nat)]? with
  | some (some (true, .ins c' fs)) => if c' = c ∧ fs.length = j then .nx (ρ.set 0 (some (true, .ins c (fs ++ [d])))) else .stuck
  | _ => .stuck
theorem bs_setf {g sn : Str} {j : Nat} (S : Sok T N sc W k X) (h0 : N[0]? = some sn) (hv : Vis sc sn) (hd : (sn == ("__debug__" : Str)) = false) (hcd : (sn == ("__classdict__" : Str)) = false) (hg : (T.flds c)[j]? = some g) (hn : (T.flds c).Nodup) (hz : (T.flds c).length < 1000) (hc : Cls T.K (T.cls c)) (hna : NoAttr T.K (T.cls c) g)
    (he : PE X e (tB T W f)) (hs : swapsWith e (some (.Attribute (.Name sn p) g p2)) pos.line X.env = pure false) : PS X (.Assign [.Attribute (.Name sn p) g p2] e pos) (tS T W (setfF c j f)) := by
  refine ps_imp (ps_fld (pe_var (i := 0) (by rw [S.C.hN]; exact h0) (by rw [S.C.hsc]; exact hv) hd hcd) he hs) fun De σ H ⟨H0, O, ρ, r, p⟩ => ?_
  unfold setfF at p
  refine tB.stmt r p fun d v H1 x1 r1 d1 p1 => ?_
  split at p1
  · rename_i c' fs hi
    split at p1
    · rename_i hc'
      obtain ⟨rfl, hl⟩ := hc'
      obtain ⟨a, e1, e2, dx, vs, e3, ⟨e5, e6⟩, e4⟩ := r1.own 0 _ hi
      have hvl : vs.length = j := by rw [e4.length, hl]
      refine ⟨_, e1, a, _, dx, _, rfl, e3, by rw [S.C.hK]; exact hc, by rw [S.C.hK]; exact hna, by rw [List.length_zip]; omega, ?_⟩
      rw [putF_zip hn (by rw [hvl]; exact hg)]
      have hm : Mb (H1 a) := by rw [e3]; trivial
      refine p1 σ _ (r1.updOwn hi e1 hm ⟨dx, vs ++ [v], upd_same, ⟨?_, e6⟩, (e4.append (.cons d1 .nil)).upd (.inr ⟨0, _, hi, e1⟩) hm⟩)
      have := (List.getElem?_eq_some_iff.mp hg).1
      simp; omega
    · exact p1.elim
  · exact p1.elim
def startI (n c : Nat) (ds : List D) : Rho := some (true, .ins c []) :: startR (n - 1) ds
def outI (c nf : Nat) (o : Out) : R (List D) := match o with
  | .nx ρ => (match ρ[(0 : Nat)]? with
    | some (some (true, .ins c' fs)) => if c' = c ∧ fs.length = nf then .ok fs else .stuck
    | _ => .stuck)
  | .err c fs _ => .err c fs
  | .any q => .any fun i => outI c nf (q i)
  | .rt _ => .stuck
  | .bk _ => .stuck
  | .ct _ => .stuck
  | .stuck => .stuck
def runI (n c nf : Nat) (F : Rho → Out) (ds : List D) : R (List D) := outI c nf (F (startI n c ds))
mutual
theorem den_slf1 {y : Addr} : ∀ (d : D) (v : V), Den { T with slf := y } O H d v = Den T O H d v
  | .non, _ => rfl
  | .bl _, _ => rfl
  | .int _, _ => rfl
  | .str _, _ => rfl
  | .tup ds, _ => by simp only [Den, dens_slf1 ds]
  | .lst ds, _ => by simp only [Den, dens_slf1 ds]
  | .dct ks ds, _ => by simp only [Den, dens_slf1 ks, dens_slf1 ds]
  | .fn _, _ => rfl
  | .scr _, _ => rfl
  | .drw _, _ => rfl
  | .ins _ ds, _ => by simp only [Den, dens_slf1 ds]
theorem dens_slf1 {y : Addr} : ∀ (ds : List D) (vs : List V), Dens { T with slf := y } O H ds vs = Dens T O H ds vs
  | [], _ => rfl
  | d :: ds, _ => by simp only [Dens, den_slf1 d, dens_slf1 ds]
end
theorem den_slf {y : Addr} : Den { T with slf := y } = Den T := by funext O H d v; exact den_slf1 d v
theorem dens_slf {y : Addr} : Dens { T with slf := y } = Dens T := by funext O H d v; exact dens_slf1 d v
theorem err_slf {y : Addr} : ErrDen { T with slf := y } = ErrDen T := by funext O H c fs x; unfold ErrDen; rw [dens_slf]
theorem postF_slf {y : Addr} {r : R D} {Q : VK} {E : XK} : PostF { T with slf := y } O H r Q E = PostF T O H r Q E := by
  induction r with
  | ok d => simp only [PostF, den_slf]
  | err c fs => simp only [PostF, err_slf]
  | stuck => rfl
  | any k ih => simp only [PostF, ih]
theorem postI_slf {y x : Addr} {c : Nat} {r : R (List D)} {Q : VK} {E : XK} : PostI { T with slf := y } c O H x r Q E = PostI T c O H x r Q E := by
  induction r with
  | ok d => simp only [PostI, dens_slf]
  | err c fs => simp only [PostI, err_slf]
  | stuck => rfl
  | any k ih => simp only [PostI, ih]
theorem spB_slf {y : Addr} : spB { T with slf := y } = spB T := by funext n m vs H Q E; unfold spB; simp only [dens_slf, postF_slf]
theorem spI_slf {y : Addr} : spI { T with slf := y } = spI T := by funext n m vs H Q E; unfold spI; simp only [dens_slf, postI_slf]
theorem rel_startI {y dx : Addr} {ds : List D} {ws : List V} {H1 : Hp} (hN : 0 < N.length) (hx : H1 y = none) (hdx : H1 dx = none) (hne : dx ≠ y) (dom : ∀ a, O a → H1 a ≠ none) (hd : Dens T O H1 ds ws) :
    Rel { T with slf := y } H1 O (L2.start N (.ref y :: ws)) (upd (upd H1 dx (.own y)) y (.ins (T.cls c) dx [])) (startI N.length c ds) := by
  have ex : Ex H1 (upd (upd H1 dx (.own y)) y (.ins (T.cls c) dx [])) := (Ex.new hdx).trans (Ex.new (by rw [upd_ne (Ne.symm hne)]; exact hx))
  have hst : L2.start N (.ref y :: ws) = some (.ref y) :: L2.start N.tail ws := by
    unfold L2.start
    simp only [List.map_cons, List.cons_append, List.length_cons, List.length_tail]
    congr 3
    omega
  have get0 : ∀ {i : Nat} {s : Slot}, (startI N.length c ds)[i]? = some (some s) → (i = 0 ∧ s = (true, .ins c [])) ∨ ∃ j d, i = j + 1 ∧ ds[j]? = some d ∧ s = (false, d) := fun {i s} h => by
    cases i with
    | zero => simp only [startI, List.getElem?_cons_zero, Option.some.injEq] at h; exact .inl ⟨rfl, h.symm⟩
    | succ j =>
      simp only [startI, List.getElem?_cons_succ] at h
      obtain ⟨d, h1, h2⟩ := startR_get h
      exact .inr ⟨j, d, rfl, h1, h2⟩
  have hown : ∀ a, OwnA (L2.start N (.ref y :: ws)) (startI N.length c ds) a → a = y := fun a ⟨i, d, h1, h2⟩ => by
    rcases get0 h1 with ⟨rfl, _⟩ | ⟨_, _, _, _, z⟩
    · rw [hst] at h2
      simp only [List.getElem?_cons_zero, Option.some.injEq, V.ref.injEq] at h2
      exact h2.symm
    · cases z
  have hav : ∀ a, Av O (L2.start N (.ref y :: ws)) (startI N.length c ds) a → H1 a ≠ none → O a := fun a h hn => h.elim id fun z => by rw [hown a z] at hn; exact absurd hx hn
  refine ⟨ex, fun a h z => dom a h (Evl.fresh_back ex z), ?_, fun i d h => ?_, fun i d h => ?_, fun i j d g a h1 h2 _ _ => ?_⟩
  · rw [hst]
    have := hd.length
    simp [startI, startR, L2.start, this]
  · rcases get0 h with ⟨_, z⟩ | ⟨j, d', rfl, h1, z⟩
    · cases z
    · cases z
      obtain ⟨v, h2, h3⟩ := hd.get h1
      refine ⟨v, by rw [hst, List.getElem?_cons_succ]; exact start_get h2, ?_⟩
      rw [den_slf]
      exact h3.mono ex hav
  · rcases get0 h with ⟨rfl, z⟩ | ⟨_, _, _, _, z⟩
    · cases z
      refine ⟨y, by rw [hst]; rfl, ⟨hx, fun z => dom y z hx⟩, dx, [], ?_, ⟨Nat.zero_le _, rfl⟩, ?_⟩
      · rw [upd_same]; simp
      · exact Dens.nil
    · cases z
  · rcases get0 h1 with ⟨rfl, _⟩ | ⟨_, _, _, _, z⟩
    · rcases get0 h2 with ⟨rfl, _⟩ | ⟨_, _, _, _, z⟩
      · rfl
      · cases z
    · cases z
theorem FnOkI_of {y qual : Str} {params : Arguments} {body : List Stmt} {dvs : List V} {kws : List (Str × V)} {fa : Addr} {fd : FuncData} {ps : List Str} {F : Rho → Out} {n nf : Nat} (Fd : FunD T.K y qual params body sc dvs kws fa fd) (S : FnScope N ps sc) (hn : n + 1 = ps.length) (hN : 0 < N.length) (hnf : (T.flds c).length = nf)
    (hb : ∀ (z : Addr) (W : WX) (X : Cx), Sok { T with slf := z } N sc W k X → PSs X body (tS { T with slf := z } W F)) : FnOk T.prog T.w T.K T.mg T.base (L2.CX T.prog T.w) (k + 1) fa fd ps (spI T c n (runI N.length c nf F)) := by
  refine Fd.ok S (fun vs H Q E ⟨O, ds, H1, x, dx, ws, hv, _, _, _, _, _, hd, hl, _⟩ => by rw [hv, List.length_cons, hd.length, hl, hn]) fun cdv A outer s H vs Q E hr h => ?_
  obtain ⟨O, ds, H1, x, dx, ws, rfl, rfl, hx, hdx, hne, dom, hd, hl, p⟩ := h
  refine ⟨_, hb x _ _ (sok_of (T := { T with slf := x }) S.nd hr), H1, O, startI N.length c ds, rel_startI hN hx hdx hne dom hd, ?_⟩
  unfold runI at p
  generalize F (startI N.length c ds) = o at p ⊢
  induction o with
  | any k0 ih => exact fun i => ih i (p i)
  | nx ρ =>
    intro σ' H' r
    simp only [outI] at p
    cases hi : ρ[(0 : Nat)]? with
    | none => rw [hi] at p; exact p.elim
    | some sl =>
      rw [hi] at p
      rcases sl with _ | ⟨b, d⟩
      · exact p.elim
      · cases b with
        | false => exact p.elim
        | true =>
          cases d with
          | ins c' fs =>
            simp only at p
            split at p
            · rename_i hc
              obtain ⟨rfl, hl2⟩ := hc
              obtain ⟨a, e1, e2, dx', vs', e3, ⟨e5, e6⟩, e4⟩ := r.own 0 _ hi
              have e6 : a = x := e6
              subst e6
              rw [dens_slf] at e4
              exact p H' r.ex ⟨dx', vs', e3, by have := e4.length; omega, e4.weak fun a z => .inl z⟩
            · exact p.elim
          | _ => exact p.elim
  | rt d => exact p.elim
  | bk ρ => exact p.elim
  | ct ρ => exact p.elim
  | err c fs ρ => exact fun y σ' H' r q => p y H' r.ex (ErrDen.weak (T := T) (A := Av O σ' ρ) (by rw [err_slf] at q; exact q) fun a z => Or.inl z)
  | stuck => exact p.elim
end
theorem force_outR : True := by
  have h1 := @outR.eq_def
  have h2 := @outR.eq_1
  trivial
theorem force_outI : True := by
  have h1 := @outI.eq_def
  have h2 := @outI.eq_1
  trivial
end BV
set_option Elab.async false
set_option linter.all false
set_option maxRecDepth 100000
set_option maxHeartbeats 1000000
namespace BV
open PySem L2 PySem.Spec PyProof.Rows
open Evl (Ex)
section
variable {T : Tb} {N : List Str} {sc : Scope} {W : WX} {k : Nat} {fb : Bool} {X : Cx} {O A : AP} {H0 H H' : Hp} {σ : L2.St} {ρ : Rho} {De : Ends} {e a b o : Expr} {es : List Expr} {x : Str} {p p2 pos apos : Pos} {f g : Rho → R D} {fl fk : Rho → R (List D)} {c i : Nat}
theorem Cok.gl (C : Cok T N sc W k fb X) (h : sc.names.lookup x = some .globalImplicit) : Gl X x := by
  unfold Gl Env.kindOf
  rw [C.hsc]
  exact h
theorem Cok.mgn (C : Cok T N sc W k fb X) (h : T.mg x = none) : X.mg x = none := by rw [C.hmg]; exact h
theorem Cok.mgs {v : Value} (C : Cok T N sc W k fb X) (h : T.mg x = some v) : X.mg x = some v := by rw [C.hmg]; exact h
/-- an environment with the scope alone -/
def env0 (sc : Scope) : Env := envOfC "" sc 0 0 .none
theorem sw_env {ts : List Expr} {v : Expr} {env : Env} (h : env.scope = sc) : swappedStores ts v env = swappedStores ts v (env0 sc) := by
  unfold swappedStores Env.blockKind Env.kindOf
  rw [h]
  rfl
theorem Cok.fn {kf : Nat} {fa : Addr} {fd : FuncData} {ps : List Str} {sp : Sp} (C : Cok T N sc W k fb X) (F : FnOk T.prog T.w T.K T.mg T.base (L2.CX T.prog T.w) kf fa fd ps sp) : FnOk X.prog X.w X.K X.mg X.base (L2.CX X.prog X.w) kf fa fd ps sp := by
  rw [C.hP, C.hw, C.hK, C.hmg, C.hbase]
  exact F
/-! ### t.index(x), t a tuple of texts of the text -/
def strsOf : List D → Option (List Str)
  | [] => some []
  | .str x :: r => (strsOf r).map (x :: ·)
  | _ => none
def opIdx (ys : List Str) : D → R D
  | .str x => if x ∈ ys then .ok (.int (ys.idxOf x : Nat)) else .stuck
  | _ => .stuck
theorem be_tidx {ta : Addr} {ys : List Str} {ob : Obj} {its : Array Value} {n : Nat} (C : Cok T N sc W k fb X) (ht : PE X o (tC (.ref ta))) (hk : T.K.lookup ta = some ob) (hc : ob.cls = .type "tuple") (hd : ob.dict = none) (hs : ob.data = .seq its n) (hy : Vals (ys.map V.str) its.toList)
    (he : PE X e (tB T W f)) (h1 : isStar e = false) (hb : attributeBase o "index" X.env (eval o X.env) = eval o X.env) (hl : (apos.endLine == pos.line) = true) :
    PE X (.Call (.Attribute o "index" apos) [e] [] pos) (tB T W fun ρ => (f ρ).bind (opIdx ys)) := by
  have mt : MtR X "tuple.index" (fun x xs H Q => x = .ref ta ∧ ∃ z, xs = [.str z] ∧ z ∈ ys ∧ Q (.int (ys.idxOf z : Nat)) H) := by
    intro pins s σ H x xs v us Q I rx rxs h
    obtain ⟨rfl, z, rfl, hz, q⟩ := h
    obtain rfl : v = Value.ref ta := rx
    obtain ⟨u, rfl, t, rfl⟩ := Vals.one rxs
    have hget := I.kIn _ _ (by rw [C.hK]; exact hk)
    have hi : StrsAre its.toList ys := by
      clear q hz hs
      generalize its.toList = l at hy
      induction ys generalizing l with
      | nil => cases hy; exact .nil
      | cons y ys ih => cases hy with | cons r rr => obtain ⟨t, rfl⟩ := r; exact .cons _ _ (ih _ rr)
    exact SeqAt.tuple_index_strs (vs := its.toList) ⟨ob, hget, hc, n, by rw [hs]⟩ hi hz ⟨.int _, H, I.tok _, ⟨_, rfl⟩, q⟩
  refine pe_imp (pe_bm F.plainAttrs_tuple F.slot_tuple_index F.type_tuple_index mt ht (pa_cons he pa_nil (star_cons h1)) hb
    (by have := form_true (pos := pos) (env := X.env) (es := [e]) (kws := []) (ks := []) (by simp [noStar, h1]) rfl (by simp); exact this) hl (star_cons h1) rfl) fun σ H Q ⟨H0, O, ρ, r, p⟩ => ?_
  refine ⟨.inr (.inl ⟨rfl, ob, by rw [C.hK]; exact hk, hc, hd⟩), tB.bind r p fun d v H1 _ e1 r1 d1 p1 => ?_⟩
  unfold opIdx at p1
  split at p1
  · split at p1
    · rename_i hz
      simp only [Den] at d1
      subst d1
      exact ⟨rfl, _, rfl, hz, p1 _ H1 (Ex.refl _) (by simp [Den])⟩
    · exact p1.elim
  · exact p1.elim
end
end BV
set_option Elab.async false
set_option linter.all false
set_option maxRecDepth 100000
set_option maxHeartbeats 1000000
namespace BV
open PySem L2 PySem.Spec PyProof.Rows
open Evl (Ex)
section
variable {T : Tb} {y qual : Str} {params : Arguments} {body : List Stmt} {scope : Scope} {dvs : List V} {kws : List (Str × V)} {f : Addr} {fd : FuncData} {ps : List Str}
def srcP (n : Nat) : List Src := (List.range n).map .pos
def srcK (m : Nat) : List Src := (List.range m).map .kw
theorem map_getD {α : Type} (z : α) : ∀ (ds : List α), (List.range ds.length).map (fun i => ds.getD i z) = ds
  | [] => rfl
  | d :: ds => by
    rw [List.length_cons, List.range_succ_eq_map, List.map_cons, List.map_map]
    have := map_getD z ds
    simp only [List.getD_cons_zero, Function.comp_def, List.getD_cons_succ]
    rw [this]
theorem bind_p {n : Nat} {ds es : List D} (h : ds.length = n) : bindS (srcP n) ds es = ds := by
  subst h
  simp only [bindS, srcP, List.map_map, Function.comp_def, Src.ev]
  exact map_getD .non ds
theorem bind_k {m : Nat} {ds es : List D} (h : es.length = m) : bindS (srcK m) ds es = es := by
  subst h
  simp only [bindS, srcK, List.map_map, Function.comp_def, Src.ev]
  exact map_getD .non es
theorem bind_d {dfs ds es : List D} : bindS (dfs.map .df) ds es = dfs := by simp [bindS, Function.comp_def, Src.ev]
theorem bind_app {s t : List Src} {ds es : List D} : bindS (s ++ t) ds es = bindS s ds es ++ bindS t ds es := by simp [bindS]
/-- all by position -/
theorem shape_pos {n : Nat} (hb : Binds T.K fd ps []) (hn : n = ps.length) : ShapeOk T fd ps n [] (srcP n) := by
  refine ⟨fun us _ => us, fun vs _ => vs, ⟨fun s us ws X l1 l2 => ?_, fun r1 r2 => r1⟩, fun O H ds vs es zs h1 h2 l1 l2 => by rw [bind_p l1]; exact h1⟩
  have := hb s us X (by rw [List.append_nil, l1, hn])
  simpa using this
/-- all keyword-only ones given, in their order -/
theorem ishape_all {n m : Nat} (F : FunD T.K y qual params body scope [] kws f fd) (ks : List Str) (hk : kws ≠ []) (hm : ks.length = m)
    (h : ∀ (D : Addr) (doc pm : Value) (an : Option Addr) (cdv ct : Value) (us ws : List Value), us.length = n → ws.length = m → bindArgs (PySem.W.fnOf y qual params body scope .none (.ref D) doc pm an cdv ct) ⟨us, ks.zip ws⟩ = pure (ps.zip (us ++ ws))) (hn : 0 < n) :
    IShapeOk T fd ps n ks (srcP n ++ srcK m) := by
  subst hm
  obtain ⟨mv, kb⟩ := F.kbinds0 (ps := ps) n ks [] (fun us _ ws => us ++ ws) hk (fun q hq => by cases hq) (fun r1 _ r3 => r1.append r3) (fun D doc pm an cdv ct us mv ws l1 _ l3 => h D doc pm an cdv ct us ws l1 l3)
  refine ⟨_, _, kb, fun O H x ds vs es zs h1 h2 l1 l2 => ⟨vs ++ zs, rfl, ?_⟩⟩
  rw [bind_app, bind_p (by simpa using l1), bind_k l2]
  exact h1.append h2
/-- no keyword-only one given -/
theorem ishape_none {n : Nat} {dfs : List D} (F : FunD T.K y qual params body scope [] kws f fd) (hk : kws ≠ []) (hd : ∀ O H, Dens T O H dfs (kws.map (·.2)))
    (h : ∀ (D : Addr) (doc pm : Value) (an : Option Addr) (cdv ct : Value) (us mv : List Value), us.length = n → mv.length = kws.length → KwChain D ((kws.map (·.1)).zip mv) (bindArgs (PySem.W.fnOf y qual params body scope .none (.ref D) doc pm an cdv ct) ⟨us, []⟩) (ps.zip (us ++ mv))) (hn : 0 < n) :
    IShapeOk T fd ps n [] (srcP n ++ dfs.map .df) := by
  obtain ⟨mv, kb⟩ := F.kbinds0 (ps := ps) n [] kws (fun us mv _ => us ++ mv) hk (fun q hq => hq) (fun r1 r2 _ => r1.append r2) (fun D doc pm an cdv ct us mv ws l1 l2 l3 => h D doc pm an cdv ct us mv l1 l2)
  refine ⟨_, _, kb, fun O H x ds vs es zs h1 h2 l1 l2 => ⟨vs ++ kws.map (·.2), rfl, ?_⟩⟩
  rw [bind_app, bind_p (by simpa using l1), bind_d]
  exact h1.append (hd _ _)
end
/-! ### names for what the statements do -/
section
variable {T : Tb} {N : List Str} {sc : Scope} {W : WX} {k : Nat} {fb : Bool} {X : Cx} {pos ppos : Pos} {st : Stmt} {sts : List Stmt} {F G : Rho → Out} {f g : Rho → R D} {t : Rho → R Bool} {e : Expr} {x : Str} {i : Nat}
def seqF (F G : Rho → Out) : Rho → Out := fun ρ => seqO (F ρ) G
def retF (f : Rho → R D) : Rho → Out := fun ρ => ofR (f ρ) ρ .rt
def letF (i : Nat) (f : Rho → R D) : Rho → Out := fun ρ => ofR (f ρ) ρ fun d => .nx (ρ.set i (some (false, d)))
def letO (i : Nat) (f : Rho → R D) : Rho → Out := fun ρ => ofR (f ρ) ρ fun d => .nx (ρ.set i (some (ownD d, d)))
def ifF (t : Rho → R Bool) (F G : Rho → Out) : Rho → Out := fun ρ => ofT (t ρ) ρ fun b => if b then F ρ else G ρ
def exprF (f : Rho → R D) : Rho → Out := fun ρ => ofR (f ρ) ρ fun _ => .nx ρ
def tgtF (tg : Tg) (f : Rho → R D) : Rho → Out := fun ρ => ofR (f ρ) ρ fun d => match tg.bind d ρ with | some ρ' => .nx ρ' | none => .stuck
def frzF (i : Nat) (G : Rho → Out) : Rho → Out := fun ρ => G (BV.frz i ρ)
def nxF : Rho → Out := .nx
def stuckF : Rho → Out := fun _ => .stuck
theorem S_nil : PSs X [] (tS T W nxF) := bs_nil
theorem S_cons (h1 : PS X st (tS T W F)) (h2 : PSs X sts (tS T W G)) : PSs X (st :: sts) (tS T W (seqF F G)) := bs_cons h1 h2
theorem S_frz (i : Nat) (h : PSs X sts (tS T W G)) : PSs X sts (tS T W (frzF i G)) := bs_frz i h
theorem S_ret (he : PE X e (tP T W f)) : PS X (.Return (some e) pos) (tS T W (retF f)) := bs_ret he
theorem S_let (S : Sok T N sc W k X) (hi : N[i]? = some x) (hx : Loc sc x) (he : PE X e (tB T W f)) (hs : swapsWith e (some (.Name x ppos)) pos.line X.env = pure false) : PS X (.Assign [.Name x ppos] e pos) (tS T W (letF i f)) := bs_set S hi hx he hs
theorem S_letO (S : Sok T N sc W k X) (hi : N[i]? = some x) (hx : Loc sc x) (he : PE X e (tF T W f)) (hs : swapsWith e (some (.Name x ppos)) pos.line X.env = pure false) : PS X (.Assign [.Name x ppos] e pos) (tS T W (letO i f)) := bs_setO S hi hx he hs
theorem S_if {c : Expr} {a b : List Stmt} (hc : PT X c (tBT T W t)) (ha : PSs X a (tS T W F)) (hb : PSs X b (tS T W G)) : PS X (.If c a b pos) (tS T W (ifF t F G)) := bs_if hc ha hb
theorem S_expr (he : PE X e (tB T W f)) (hc : isComp e = false) : PS X (.Expr e pos) (tS T W (exprF f)) := bs_expr he hc
theorem S_tgt {te : Expr} {tg : Tg} (he : PE X e (tB T W f)) (hg : PG X te (tG T tg)) (ht : isStar te = false) (hs : swapsWithSole [te] e pos.line X.env = pure false) (hw : swappedStores [te] e X.env = pure none) : PS X (.Assign [te] e pos) (tS T W (tgtF tg f)) := bs_tgt he hg ht hs hw
theorem S_stuck : PS X st (tS T W stuckF) := bs_stuck
/-! expressions -/
def constF (d : D) : Rho → R D := fun _ => .ok d
def bndF (F : D → R D) (f : Rho → R D) : Rho → R D := fun ρ => (f ρ).bind F
def attrF (T : Tb) (M : Nat → List D → R D) (fname : Str) (alts : List (Nat × Option Nat)) (f : Rho → R D) : Rho → R D := fun ρ => (f ρ).bind (evAttr T M fname alts)
end
end BV
set_option Elab.async false
set_option linter.all false
set_option maxRecDepth 100000
set_option maxHeartbeats 1000000
namespace BV
open PySem L2 PySem.Spec PyProof.Rows
open Evl (Ex)
section
variable {T : Tb} {N : List Str} {sc : Scope} {W : WX} {k : Nat} {fb : Bool} {X : Cx} {O A : AP} {H0 H H' : Hp} {σ : L2.St} {ρ : Rho} {Q : VK}
variable {a b c e o : Expr} {f g h : Rho → R D} {fl fk : Rho → R (List D)} {p p2 pos apos : Pos} {es : List Expr} {kws : List Keyword} {x m : Str}
theorem ne_add : NoErr2 opAdd := fun x y => by unfold opAdd; split <;> (try rfl) <;> split <;> rfl
theorem ne_sub : NoErr2 opSub := fun x y => by unfold opSub; split <;> rfl
theorem ne_mul : NoErr2 opMul := fun x y => by unfold opMul; split <;> (try rfl) <;> split <;> rfl
theorem ne_fdiv : NoErr2 opFdiv := fun x y => by unfold opFdiv; split <;> (try rfl) <;> split <;> rfl
theorem ne_mod : NoErr2 opMod := fun x y => by unfold opMod; split <;> (try rfl) <;> split <;> rfl
theorem ne_eq : NoErr2 opEq := fun x y => by unfold opEq; split <;> (try rfl) <;> split <;> rfl
theorem ne_ne : NoErr2 opNe := fun x y => by unfold opNe; split <;> (try rfl) <;> split <;> rfl
theorem ne_cmp {q : Int → Int → Bool} : NoErr2 (opCmp q) := fun x y => by unfold opCmp; split <;> rfl
theorem ne_isN : NoErr2 opIsN := fun x y => by unfold opIsN; split <;> rfl
theorem ne_notN : NoErr2 opNotN := fun x y => by unfold opNotN; split <;> rfl
theorem ne_in : NoErr2 opIn2 := fun x y => by unfold opIn2; split <;> (try rfl) <;> split <;> rfl
theorem ne_nin : NoErr2 opNin2 := fun x y => by unfold opNin2; split <;> (try rfl) <;> split <;> rfl
theorem blOf_ne {r : R D} {q : Bool → R D} (hq : ∀ b, (q b).lf = true) : ((blOf r).bind q).lf = true := by
  unfold blOf
  split
  · exact hq _
  · rfl
theorem ne_eqI {n : Nat} {M : List D → R D} : NoErr2 (opEqI n M) := fun x y => by
  unfold opEqI; split <;> (try rfl); split <;> (try rfl); exact blOf_ne fun _ => rfl
theorem ne_neI {n : Nat} {M : List D → R D} : NoErr2 (opNeI n M) := fun x y => by
  unfold opNeI; split <;> (try rfl); split <;> (try rfl); exact blOf_ne fun _ => rfl
theorem ne_inI {n : Nat} {M : List D → R D} : NoErr2 (opInI n M) := fun x y => by
  unfold opInI; split <;> (try rfl); split <;> (try rfl); exact blOf_ne fun _ => rfl
theorem ne_lenI {n : Nat} {M : List D → R D} : NoErr1 (biLenI n M) := fun x => by
  unfold biLenI; split <;> (try rfl); split <;> (try rfl); split <;> (try rfl); split <;> rfl
/-! ### names and constants -/
theorem E_var (C : Cok T N sc W k fb X) (i : Nat) (hN : N[i]? = some x := by rfl) (hv : Vis sc x := by first | exact Or.inl rfl | exact Or.inr (Or.inl rfl) | exact Or.inr (Or.inr rfl)) (hd : (x == ("__debug__" : Str)) = false := by decide) (hcd : (x == ("__classdict__" : Str)) = false := by decide) : PE X (.Name x pos) (tB T W (rdV i)) := be_var C hN hv hd hcd
theorem P_var (C : Cok T N sc W k fb X) (i : Nat) (hN : N[i]? = some x := by rfl) (hv : Vis sc x := by first | exact Or.inl rfl | exact Or.inr (Or.inl rfl) | exact Or.inr (Or.inr rfl)) (hd : (x == ("__debug__" : Str)) = false := by decide) (hcd : (x == ("__classdict__" : Str)) = false := by decide) : PE X (.Name x pos) (tP T W (rdP i)) := bp_var C hN hv hd hcd
theorem P_of (h : PE X e (tB T W f)) : PE X e (tP T W f) := tP_of_tB h
theorem E_int {i : Int} {j : Nat} : PE X (.Constant (.int i) j pos) (tB T W (constF (.int i))) := be_const pe_int fun _ _ => by simp [Den]
theorem E_str {i : Str} {j : Nat} : PE X (.Constant (.str i) j pos) (tB T W (constF (.str i))) := be_const pe_str fun _ _ => by simp [Den]
theorem E_bl {i : Bool} {j : Nat} : PE X (.Constant (.bool i) j pos) (tB T W (constF (.bl i))) := be_const pe_bl fun _ _ => by simp [Den]
theorem E_non {j : Nat} : PE X (.Constant .none j pos) (tB T W (constF .non)) := be_const pe_non fun _ _ => by simp [Den]
theorem E_neg {i : Int} {j : Nat} : PE X (.UnaryOp .USub (.Constant (.int i) j p) pos) (tB T W (constF (.int (-i)))) :=
  be_const (pe_imp (pe_un un_neg pe_int) fun σ H Q q => ⟨_, rfl, q⟩) fun _ _ => by simp [Den]
/-- a constant of the module -/
def GC (T : Tb) (x : Str) (d : D) : Prop := ∃ v u, T.mg x = some u ∧ RelV v u ∧ ∀ A H, Den T A H d v
theorem E_gc {d : D} (C : Cok T N sc W k fb X) (h : GC T x d) (hg : sc.names.lookup x = some .globalImplicit := by rfl) (hd : (x == ("__debug__" : Str)) = false := by decide) : PE X (.Name x pos) (tB T W (constF d)) := by
  obtain ⟨v, u, h1, h2, h3⟩ := h
  exact be_const (pe_glob (C.gl hg) (C.mgs h1) h2 hd) h3
/-! ### operators -/
theorem E_add (C : Cok T N sc W k fb X) (ha : PE X a (tP T W f)) (hb : PE X b (tP T W g)) : PE X (.BinOp a .Add b pos) (tB T W (bin2 opAdd f g)) := be_bin ne_add (op_addD C.hK) ha hb
theorem E_sub (ha : PE X a (tP T W f)) (hb : PE X b (tP T W g)) : PE X (.BinOp a .Sub b pos) (tB T W (bin2 opSub f g)) := be_bin ne_sub op_subD ha hb
theorem E_mul (C : Cok T N sc W k fb X) (ha : PE X a (tP T W f)) (hb : PE X b (tP T W g)) : PE X (.BinOp a .Mult b pos) (tB T W (bin2 opMul f g)) := be_bin ne_mul (op_mulD C.hK) ha hb
theorem E_fdiv (ha : PE X a (tP T W f)) (hb : PE X b (tP T W g)) : PE X (.BinOp a .FloorDiv b pos) (tB T W (bin2 opFdiv f g)) := be_bin ne_fdiv op_fdivD ha hb
theorem E_mod (ha : PE X a (tP T W f)) (hb : PE X b (tP T W g)) : PE X (.BinOp a .Mod b pos) (tB T W (bin2 opMod f g)) := be_bin ne_mod op_modD ha hb
/-- a comparison's rule -/
structure CR (X : Cx) (T : Tb) (op : CmpOp) (F : D → D → R D) : Prop where
  ne : NoErr2 F
  op : OpR X (compareOp op) (rD T F)
theorem R_eq (C : Cok T N sc W k fb X) : CR X T .Eq opEq := ⟨ne_eq, op_eqDD C.hK C.u64⟩
theorem R_ne (C : Cok T N sc W k fb X) : CR X T .NotEq opNe := ⟨ne_ne, op_neDD C.hK C.u64⟩
theorem R_lt : CR X T .Lt (opCmp fun i j => decide (i < j)) := ⟨ne_cmp, op_cmpD op_lt⟩
theorem R_le : CR X T .LtE (opCmp fun i j => decide (i ≤ j)) := ⟨ne_cmp, op_cmpD op_le⟩
theorem R_gt : CR X T .Gt (opCmp fun i j => decide (j < i)) := ⟨ne_cmp, op_cmpD op_gt⟩
theorem R_ge : CR X T .GtE (opCmp fun i j => decide (j ≤ i)) := ⟨ne_cmp, op_cmpD op_ge⟩
theorem R_is : CR X T .Is opIsN := ⟨ne_isN, op_isND⟩
theorem R_isnt : CR X T .IsNot opNotN := ⟨ne_notN, op_notND⟩
theorem R_in (C : Cok T N sc W k fb X) : CR X T .In opIn2 := ⟨ne_in, op_inDD C.hK C.u65⟩
theorem R_nin (C : Cok T N sc W k fb X) : CR X T .NotIn opNin2 := ⟨ne_nin, op_ninDD C.hK C.u65⟩
theorem R_eqI {kf n gg : Nat} {Φ : Nat → Fn} {M : List D → R D} (C : Cok T N sc W k fb X) (E : EqOk T Φ n gg) (hi : InsOk T n) (F : FnOk T.prog T.w T.K T.mg T.base (L2.CX T.prog T.w) kf (Φ gg).addr (Φ gg).fd (Φ gg).ps (spB T 2 M)) (hk : kf ≤ k := by decide) : CR X T .Eq (opEqI n M) := ⟨ne_eqI, op_eqI C.hK E hi (C.fn F) (C.room.mono hk)⟩
theorem R_neI {kf n gg : Nat} {Φ : Nat → Fn} {M : List D → R D} (C : Cok T N sc W k fb X) (E : EqOk T Φ n gg) (hi : InsOk T n) (F : FnOk T.prog T.w T.K T.mg T.base (L2.CX T.prog T.w) kf (Φ gg).addr (Φ gg).fd (Φ gg).ps (spB T 2 M)) (hk : kf + 1 ≤ k := by decide) : CR X T .NotEq (opNeI n M) := ⟨ne_neI, op_neI C.hK E hi (C.fn F) (C.room.mono hk)⟩
theorem R_inI {kf n gg : Nat} {Φ : Nat → Fn} {M : List D → R D} (C : Cok T N sc W k fb X) (E : SpOk T Φ "__contains__" n gg) (F : FnOk T.prog T.w T.K T.mg T.base (L2.CX T.prog T.w) kf (Φ gg).addr (Φ gg).fd (Φ gg).ps (spB T 2 M)) (hk : kf ≤ k := by decide) : CR X T .In (opInI n M) := ⟨ne_inI, op_inI C.hK E (C.fn F) (C.room.mono hk)⟩
theorem E_cmp {op : CmpOp} {F : D → D → R D} (r : CR X T op F) (ha : PE X a (tP T W f)) (hb : PE X b (tP T W g)) (hm : behindInMarks op b = false := by rfl) : PE X (.Compare a [op] [b] pos) (tB T W (bin2 F f g)) := be_cmp r.ne r.op ha hb hm
theorem T_cmp {op : CmpOp} {F : D → D → R D} (r : CR X T op F) (ha : PE X a (tP T W f)) (hb : PE X b (tP T W g)) (hm : behindInMarks op b = false := by rfl) : PT X (.Compare a [op] [b] pos) (tBT T W (tst (bin2 F f g))) := bt_cmp r.ne r.op ha hb hm
theorem E_chn {op op' : CmpOp} {F G : D → D → R D} (r : CR X T op F) (r' : CR X T op' G) (ha : PE X a (tP T W f)) (hb : PE X b (tP T W g)) (hc : PE X c (tP T W h)) (hm : lastMarks [op, op'] [b, c] = false := by rfl) : PE X (.Compare a [op, op'] [b, c] pos) (tB T W (chn F G f g h)) := be_chn r.ne r'.ne r.op r'.op ha hb hc hm
theorem T_chn {op op' : CmpOp} {F G : D → D → R D} (r : CR X T op F) (r' : CR X T op' G) (ha : PE X a (tP T W f)) (hb : PE X b (tP T W g)) (hc : PE X c (tP T W h)) (hm : lastMarks [op, op'] [b, c] = false := by rfl) : PT X (.Compare a [op, op'] [b, c] pos) (tBT T W (tst (chn F G f g h))) := bt_chn r.ne r'.ne r.op r'.op ha hb hc hm
theorem T_val (h : PE X e (tB T W f)) (he : ∀ whole, isTrue e X.env whole = (do let v ← whole; standAt e.pos; holding [v] (truthy v)) := by intro _; rfl) : PT X e (tBT T W (tst f)) := bt_val h he
/-! ### displays, places -/
theorem A_nil : PA X [] (tBs T W nilL) := ba_nil
theorem A_cons (h1 : PE X a (tB T W f)) (h2 : PA X es (tBs T W fl)) (hs : isStar a = false := by rfl) : PA X (a :: es) (tBs T W (consL f fl)) := ba_cons h1 h2 (star_cons hs)
theorem Q_nil : PA X [] (tPs T W nilL) := bq_nil
theorem Q_cons (h1 : PE X a (tP T W f)) (h2 : PA X es (tPs T W fl)) (hs : isStar a = false := by rfl) : PA X (a :: es) (tPs T W (consL f fl)) := bq_cons h1 h2 (star_cons hs)
theorem K_nil : PK X [] (tBs T W nilL) := bk_nil
theorem K_cons {nm : Option Str} {kpos : Pos} (h1 : PE X a (tB T W f)) (h2 : PK X kws (tBs T W fl)) : PK X (⟨nm, a, kpos⟩ :: kws) (tBs T W (consL f fl)) := bk_cons h1 h2
theorem E_ix (C : Cok T N sc W k fb X) (ha : PE X a (tP T W f)) (hb : PE X b (tP T W g)) (hs : PlainIx b := by intro _ _; rfl) : PE X (.Subscript a b pos) (tB T W (bin2 opIx f g)) := be_ix C.hK ha hb hs
theorem E_sl {lo hi : Option Expr} {fo fh : Rho → R (Option Int)} (C : Cok T N sc W k fb X) (he : PE X e (tP T W f)) (hl : PO X lo (tBO T W fo)) (hh : PO X hi (tBO T W fh)) : PE X (.Subscript e (.Slice lo hi none p2) pos) (tB T W (slF f fo fh)) := be_slice C.hK he hl hh
/-! ### built-ins -/
theorem E_bi (C : Cok T N sc W k fb X) (bi : Bi) (hm : T.mg bi.name = none) (ha : PA X (e :: es) (tPs T W fl)) (hx : x = bi.name := by rfl) (hg : sc.names.lookup x = some .globalImplicit := by rfl) (hs : noStar (e :: es) = true := by rfl) :
    PE X (.Call (.Name x p) (e :: es) [] pos) (tB T W (appL bi.ev fl)) := by
  subst hx
  simp only [noStar, List.all_cons, Bool.and_eq_true, Bool.not_eq_true'] at hs
  exact be_bi C bi (C.gl hg) (C.mgn hm) ha (star_cons hs.1) (star_any hs.2)
theorem E_lenI {kf n gg : Nat} {Φ : Nat → Fn} {M : List D → R D} (C : Cok T N sc W k fb X) (hm : T.mg "len" = none) (E : SpOk T Φ "__len__" n gg) (F : FnOk T.prog T.w T.K T.mg T.base (L2.CX T.prog T.w) kf (Φ gg).addr (Φ gg).fd (Φ gg).ps (spB T 1 M)) (ha : PA X [e] (tPs T W fl)) (hk : kf + 1 ≤ k := by decide)
    (hg : sc.names.lookup ("len" : Str) = some .globalImplicit := by rfl) (hs : isStar e = false := by rfl) : PE X (.Call (.Name "len" p) [e] [] pos) (tB T W (appL (biLenI n M) fl)) :=
  be_callB ne_lenI (c_lenI C.hK E (C.fn F) (C.room.mono hk)) (C.gl hg) (C.mgn hm) (by decide +kernel) ha (by decide) (by decide) (star_cons hs) rfl
def rgD : D → R D
  | .int j => if smallI j = true then .ok (.lst (rngD 0 j)) else .stuck
  | _ => .stuck
theorem rgV_D {j : Int} {A : AP} {H : Hp} : Dens T A H (rngD 0 j) (rgV 0 j) := by
  have : rgV 0 j = (rngD 0 j).map fun | .int i => V.int i | _ => V.non := by
    unfold rgV rngD
    simp [Function.comp_def]
  have e2 : rngD 0 j = ((List.range (j - 0).toNat).map fun (i : Nat) => ((0 : Int) + (i : Int))).map D.int := by unfold rngD; simp [Function.comp_def]
  have e1 : rgV 0 j = ((List.range (j - 0).toNat).map fun (i : Nat) => ((0 : Int) + (i : Int))).map V.int := by unfold rgV; simp [Function.comp_def]
  rw [e1, e2]
  exact Dens.int _
theorem tLstRg_of {Q : VK} (h : tB T W (bndF rgD f) σ H Q) : tLstRg (tRg1 (tB T W f)) σ H Q := by
  obtain ⟨H0, O, ρ, r, p⟩ := h
  refine tB.bind r p fun d v H1 _ e1 r1 d1 p1 => ?_
  unfold rgD at p1
  split at p1
  · split at p1
    · rename_i j hj
      have hj := smallI_ok hj
      simp only [Den] at d1
      subst d1
      exact ⟨_, rfl, ⟨by omega, by omega, by omega, by omega, by omega⟩, fun q hq => okP.lst (T := T) p1 r1.avdom rgV_D q hq⟩
    · exact p1.elim
  · exact p1.elim
theorem E_lrg {p3 : Pos} (C : Cok T N sc W k fb X) (hl : T.mg "list" = none) (hr : T.mg "range" = none) (he : PE X e (tB T W f)) (g1 : sc.names.lookup ("list" : Str) = some .globalImplicit := by rfl) (g2 : sc.names.lookup ("range" : Str) = some .globalImplicit := by rfl) (hs : isStar e = false := by rfl) :
    PE X (.Call (.Name "list" p) [.Call (.Name "range" p2) [e] [] p3] [] pos) (tB T W (bndF rgD f)) :=
  pe_imp (pe_listRg C.calm (C.gl g1) (C.mgn hl) (prg_1 (C.gl g2) (C.mgn hr) he (star_cons hs)) rfl) fun σ H Q h => tLstRg_of h
end
end BV
set_option Elab.async false
set_option linter.all false
set_option maxRecDepth 100000
set_option maxHeartbeats 1000000
namespace BV
open PySem L2 PySem.Spec PyProof.Rows
open Evl (Ex)
section
variable {T : Tb} {N : List Str} {sc : Scope} {W : WX} {k : Nat} {fb : Bool} {X : Cx} {O A : AP} {H0 H H' : Hp} {σ : L2.St} {ρ : Rho} {Q : VK} {Φ : Nat → Fn}
variable {a b c e o tg : Expr} {f g h : Rho → R D} {fl fk : Rho → R (List D)} {p p2 pos apos : Pos} {es : List Expr} {kws : List Keyword} {x m : Str}
/-- what a call of a def needs -/
abbrev OkB (T : Tb) (Φ : Nat → Fn) (kf fi n : Nat) (M : List D → R D) : Prop := FnOk T.prog T.w T.K T.mg T.base (L2.CX T.prog T.w) kf (Φ fi).addr (Φ fi).fd (Φ fi).ps (spB T n M)
abbrev OkI (T : Tb) (Φ : Nat → Fn) (kf fi c n : Nat) (M : List D → R (List D)) : Prop := FnOk T.prog T.w T.K T.mg T.base (L2.CX T.prog T.w) kf (Φ fi).addr (Φ fi).fd (Φ fi).ps (spI T c n M)
theorem E_fn {kf fi n : Nat} {ks : List Str} {src : List Src} {M : List D → R D} (C : Cok T N sc W k fb X) (F : OkB T Φ kf fi src.length M) (hm : T.mg x = some (.ref (Φ fi).addr)) (hkp : PySem.W.keepIn T.K (.ref (Φ fi).addr) = true) (S : ShapeOk T (Φ fi).fd (Φ fi).ps n ks src)
    (ha : PA X es (tBs T W fl)) (hkw : PK X kws (tBs T W fk)) (hk : kf ≤ k := by decide) (hg : sc.names.lookup x = some .globalImplicit := by rfl) (h1 : noStar es = true := by rfl) (h2 : kwNames kws = some ks := by rfl) (hn : es = [] → fl = nilL := by intro h; first | rfl | cases h)
    (hdb : (x == ("__debug__" : Str)) = false := by decide) : PE X (.Call (.Name x p) es kws pos) (tB T W (callF n ks.length src M fl fk)) :=
  be_fn C (C.fn F) (C.room.mono hk) (C.gl hg) (C.mgs hm) (by rw [C.hK]; exact hkp) S ha hkw h1 h2 hn hdb
/-! ### attributes -/
def evA (fs : Nat → List Str) (M : Nat → List D → R D) (fname : Str) (alts : List (Nat × Option Nat)) : D → R D
  | .ins c ds => match alts.lookup c with
    | some none => (match ((fs c).zip ds).lookup fname with | some d => .ok d | none => .stuck)
    | some (some g) => noErrR (M g [.ins c ds])
    | none => .stuck
  | _ => .stuck
theorem evA_eq {fs : Nat → List Str} {M : Nat → List D → R D} {fname : Str} {alts : List (Nat × Option Nat)} (hfl : T.flds = fs) : evAttr T M fname alts = evA fs M fname alts := by
  subst hfl
  funext d
  cases d <;> rfl
theorem E_attr {kf : Nat} {fs : Nat → List Str} {M : Nat → List D → R D} {alts : List (Nat × Option Nat)} {fname : Str} (C : Cok T N sc W k fb X) (hfl : T.flds = fs) (hfn : ∀ c g, (c, some g) ∈ alts → OkB T Φ kf g 1 (M g)) (hal : ∀ alt ∈ alts, AltOk T Φ fname alt) (he : PE X e (tB T W f)) (hk : kf + 1 ≤ k := by decide)
    (hb : attributeBase e fname X.env (eval e X.env) = eval e X.env := by first | rfl | exact abase_call (by decide)) : PE X (.Attribute e fname pos) (tB T W (bndF (evA fs M fname alts) f)) := by
  have := be_attr (pos := pos) C (fun c g h => C.fn (hfn c g h)) (C.room.mono hk) hal he hb
  rw [evA_eq hfl] at this
  exact this
theorem E_meth {kf : Nat} {M : Nat → List D → R D} {alts : List (Nat × Shp)} {ks : List Str} (C : Cok T N sc W k fb X) (hfn : ∀ c s, (c, s) ∈ alts → OkB T Φ kf s.f s.src.length (M s.f)) (hal : ∀ alt ∈ alts, MAltOk T Φ m ks alt) (he : PE X o (tB T W f)) (ha : PA X es (tBs T W fl)) (hkw : PK X kws (tBs T W fk)) (hk : kf ≤ k := by decide)
    (h1 : noStar es = true := by rfl) (h2 : kwNames kws = some ks := by rfl) (h3 : es.length + kws.length + 1 < 30 := by decide) (hn : es = [] → fl = nilL := by intro h; first | rfl | cases h) (hb : attributeBase o m X.env (eval o X.env) = eval o X.env := by first | rfl | exact abase_call (by decide)) (hl : (apos.endLine == pos.line) = true := by rfl) :
    PE X (.Call (.Attribute o m apos) es kws pos) (tB T W (methF M alts f fl fk)) := be_meth C (fun c s h => C.fn (hfn c s h)) (C.room.mono hk) hal he ha hkw h1 h2 h3 hn hb hl
def mkG (c : Nat) (s : Shp) (MI : List D → R (List D)) (fl fk : Rho → R (List D)) : Rho → R D := fun ρ => (fl ρ).bind fun ds => (fk ρ).bind fun es => if ds.length + 1 = s.n ∧ es.length = s.ks.length then (MI (bindS s.src (.non :: ds) es).tail).bind fun fs => .ok (.ins c fs) else .stuck
theorem E_mk {kf cn n : Nat} {sh : Shp} {MI : List D → R (List D)} (C : Cok T N sc W k fb X) (F : OkI T Φ kf sh.f cn (sh.src.length - 1) MI) (Mk' : Mk T.K (T.cls cn) (Φ sh.f).addr) (hm : T.mg x = some (.ref (T.cls cn))) (hnn : sh.n = n + 1) (S : IShapeOk T (Φ sh.f).fd (Φ sh.f).ps sh.n sh.ks sh.src)
    (ha : PA X es (tBs T W fl)) (hkw : PK X kws (tBs T W fk)) (hk : kf + 1 ≤ k := by decide) (hg : sc.names.lookup x = some .globalImplicit := by rfl) (h1 : noStar es = true := by rfl) (h2 : kwNames kws = some sh.ks := by rfl) (hn : es = [] → fl = nilL := by intro h; first | rfl | cases h) (hdb : (x == ("__debug__" : Str)) = false := by decide) :
    PE X (.Call (.Name x p) es kws pos) (tB T W (mkG cn sh MI fl fk)) := be_mk (MI := fun _ => MI) C (C.fn F) (C.room.mono hk) Mk' (C.gl hg) (C.mgs hm) hnn S ha hkw h1 h2 hn hdb
/-! ### isinstance -/
theorem Y_b {n : String} (C : Cok T N sc W k fb X) (hm : T.mg x = none) (hv : bootBuiltins x = some (.type n) := by decide +kernel) (hg : sc.names.lookup x = some .globalImplicit := by rfl) (hn : x ≠ "__name__" := by decide) (hd : (x == ("__debug__" : Str)) = false := by decide) : PTy X T (.Name x pos) (.b n) :=
  pe_bltn (C.gl hg) (C.mgn hm) hv rfl hn hd
theorem Y_c {i : Nat} (C : Cok T N sc W k fb X) (hm : T.mg x = some (.ref (T.cls i))) (hg : sc.names.lookup x = some .globalImplicit := by rfl) (hd : (x == ("__debug__" : Str)) = false := by decide) : PTy X T (.Name x pos) (.c i) :=
  pe_glob (C.gl hg) (C.mgs hm) rfl hd
theorem TyB {sub : Nat → Nat → Bool} {cs : List Nat} {n : String} (h : n ∈ tyAsked := by decide) : TyOk T sub cs (.b n) := ⟨fun m e => by cases e; exact h, fun i e => nomatch e⟩
theorem TyC {sub : Nat → Nat → Bool} {cs : List Nat} {i : Nat} (h1 : ∀ n ∈ tyNames, PySem.W.kitOne T.K (.type n) (.ref (T.cls i)) = some false) (h2 : ∀ c ∈ cs, PySem.W.kitOne T.K (.ref (T.cls c)) (.ref (T.cls i)) = some (sub c i)) : TyOk T sub cs (.c i) := ⟨fun m e => (nomatch e), fun j e => by cases e; exact ⟨h1, h2⟩⟩
theorem E_isi {sub : Nat → Nat → Bool} {cs : List Nat} {t : Ty} {tn : Expr} (C : Cok T N sc W k fb X) (hm : T.mg "isinstance" = none) (hi : ∀ c ∈ cs, InsOk T c) (tk : TyOk T sub cs t) (ht : PTy X T tn t) (he : PE X e (tP T W f)) (hg : sc.names.lookup ("isinstance" : Str) = some .globalImplicit := by rfl) (h1 : isStar e = false := by rfl) (h2 : isStar tn = false := by rfl) :
    PE X (.Call (.Name "isinstance" p) [e, tn] [] pos) (tB T W (bndF (isiF sub cs [t]) f)) := be_isi C hi tk ht he (C.gl hg) (C.mgn hm) h1 h2
/-! ### iterations -/
def itSeq (f : Rho → R D) : Rho → R (List D) := fun ρ => (f ρ).bind seqD
def itRng1 (fl : Rho → R (List D)) : Rho → R (List D) := fun ρ => (fl ρ).bind rng1
def itRng2 (fl : Rho → R (List D)) : Rho → R (List D) := fun ρ => (fl ρ).bind rng2
def itEnum (f : Rho → R D) : Rho → R (List D) := fun ρ => (f ρ).bind fun d => (seqD d).bind fun ds => .ok (enumD ds)
def itZip (f g : Rho → R D) : Rho → R (List D) := fun ρ => (f ρ).bind fun d => (g ρ).bind fun e => (seqD d).bind fun ds => (seqD e).bind fun es => .ok (zipD ds es)
theorem I_seq (C : Cok T N sc W k fb X) (he : PE X e (tB T W f)) : PI X tg e (tI T W (itSeq f)) := bi_seq C he
theorem I_rng1 (C : Cok T N sc W k fb X) (hm : T.mg "range" = none) (ha : PA X [a] (tPs T W fl)) (hg : sc.names.lookup ("range" : Str) = some .globalImplicit := by rfl) (h1 : isStar a = false := by rfl) : PI X tg (.Call (.Name "range" p) [a] [] pos) (tI T W (itRng1 fl)) := bi_range1 (C.gl hg) (C.mgn hm) ha h1
theorem I_rng2 (C : Cok T N sc W k fb X) (hm : T.mg "range" = none) (ha : PA X [a, b] (tPs T W fl)) (hg : sc.names.lookup ("range" : Str) = some .globalImplicit := by rfl) (h1 : isStar a = false := by rfl) (h2 : isStar b = false := by rfl) : PI X tg (.Call (.Name "range" p) [a, b] [] pos) (tI T W (itRng2 fl)) := bi_range2 (C.gl hg) (C.mgn hm) ha h1 h2
theorem I_enum {elts : List Expr} {kk : Nat} {tpos : Pos} (C : Cok T N sc W k fb X) (hm : T.mg "enumerate" = none) (he : PE X a (tB T W f)) (hg : sc.names.lookup ("enumerate" : Str) = some .globalImplicit := by rfl) (h1 : isStar a = false := by rfl) : PI X (.Tuple elts kk tpos) (.Call (.Name "enumerate" p) [a] [] pos) (tI T W (itEnum f)) := bi_enum C (C.gl hg) (C.mgn hm) he h1
theorem I_zip {elts : List Expr} {kk : Nat} {tpos : Pos} (C : Cok T N sc W k fb X) (hm : T.mg "zip" = none) (he : PE X a (tB T W f)) (he2 : PE X b (tB T W g)) (hg : sc.names.lookup ("zip" : Str) = some .globalImplicit := by rfl) (h1 : isStar a = false := by rfl) (h2 : isStar b = false := by rfl) : PI X (.Tuple elts kk tpos) (.Call (.Name "zip" p) [a, b] [] pos) (tI T W (itZip f g)) := bi_zip C (C.gl hg) (C.mgn hm) he he2 h1 h2
/-! ### targets -/
theorem G_n (C : Cok T N sc W k fb X) (i : Nat) (hi : N[i]? = some x := by rfl) (hx : Loc sc x := by first | exact Or.inl rfl | exact Or.inr rfl) (hf : X.fn x = true ∨ sc.names.lookup x = some .local := by first | exact Or.inr rfl | exact Or.inl (C.hfn rfl _)) : PG X (.Name x pos) (tG T (.n i)) := bg_name C hi hx hf
theorem G_t2 {x1 x2 : Str} {q1 q2 q3 : Pos} {kk : Nat} (C : Cok T N sc W k fb X) (i j : Nat) (hi : N[i]? = some x1 := by rfl) (hj : N[j]? = some x2 := by rfl) (hx : Loc sc x1 := by first | exact Or.inl rfl | exact Or.inr rfl) (hy : Loc sc x2 := by first | exact Or.inl rfl | exact Or.inr rfl)
    (hf : X.fn x1 = true ∨ sc.names.lookup x1 = some .local := by first | exact Or.inr rfl | exact Or.inl (C.hfn rfl _)) (hf2 : X.fn x2 = true ∨ sc.names.lookup x2 = some .local := by first | exact Or.inr rfl | exact Or.inl (C.hfn rfl _)) : PG X (.Tuple [.Name x1 q1, .Name x2 q2] kk q3) (tG T (.t [i, j])) :=
  bg_tup C rfl (fun n e l h1 h2 => by
    match n with
    | 0 => cases h1; cases h2; exact pg_name (by rw [C.hN]; exact C.nd) (by rw [C.hN]; exact hi) (by rw [C.hsc]; exact hx) (by rw [C.hsc]; exact hf)
    | 1 => cases h1; cases h2; exact pg_name (by rw [C.hN]; exact C.nd) (by rw [C.hN]; exact hj) (by rw [C.hsc]; exact hy) (by rw [C.hsc]; exact hf2)
    | n + 2 => cases h1) rfl
/-! ### comprehensions -/
def yesF : Rho → R Bool := fun _ => .ok true
theorem B_nil : PTs X [] (tBT T W yesF) := ⟨fun pins s σ H Q I h => pts_nil.run pins s σ H Q I (by obtain ⟨_, _, _, _, p⟩ := h; exact p H (Ex.refl H))⟩
theorem B_one {t : Rho → R Bool} (h : PT X c (tBT T W t)) : PTs X [c] (tBT T W t) := pts_one h
theorem E_lc {elt iter tge : Expr} {ifs : List Expr} {scope : Scope} {tg : Tg} {vs : List Nat} {cond : Rho → R Bool} {eltF : Rho → R D} {items : Rho → R (List D)} (C : Cok T N sc W k fb X) (own : List (Str × Nat)) (hi : PI X tge iter (tI T W items))
    (hg : ∀ X', Cok T N (relS scope sc) WF k false X' → PG X' tge (tG T tg)) (ht : ∀ X', Cok T N (relS scope sc) WF k false X' → PTs X' ifs (tBT T WF cond)) (he : ∀ X', Cok T N (relS scope sc) WF k false X' → PE X' elt (tB T WF eltF))
    (ok : BlkOk N sc scope own := by exact ⟨rfl, by decide, by decide, by decide, by decide⟩) (hvs : own.map (·.2) = vs := by rfl) (hsl : ∀ i ∈ tg.slots, i ∈ vs := by decide) (hs : ∀ x, foldedSetIterable iter X.env x = pure x := by intro _; rfl) : PE X (.ListComp elt [⟨tge, iter, ifs, 0⟩] scope pos) (tB T W (lcF tg vs cond eltF items)) :=
  be_lc C hi ok hvs hsl hg ht he hs
/-! ### statements -/
theorem S_for {tge iter : Expr} {body : List Stmt} {tg : Tg} {F : Rho → Out} {items : Rho → R (List D)} (S : Sok T N sc W k X) (hi : PI X tge iter (tI T W items)) (hg : PG X tge (tG T tg)) (hb : PSs X body (tS T W F)) (hs : ∀ x, foldedSetIterable iter X.env x = pure x := by intro _; rfl) : PS X (.For tge iter body [] pos) (tS T W (forF tg items F)) := bs_for S hi hg hb hs
theorem S_let' {i : Nat} {ppos : Pos} (S : Sok T N sc W k X) (he : PE X e (tB T W f)) (hi : N[i]? = some x := by rfl) (hx : Loc sc x := by first | exact Or.inl rfl | exact Or.inr rfl) (hs : isComp e = false := by rfl) : PS X (.Assign [.Name x ppos] e pos) (tS T W (letF i f)) := S_let S hi hx he (swap_no hs)
theorem S_letO' {i : Nat} {ppos : Pos} (S : Sok T N sc W k X) (he : PE X e (tF T W f)) (hi : N[i]? = some x := by rfl) (hx : Loc sc x := by first | exact Or.inl rfl | exact Or.inr rfl) (hs : isComp e = false := by rfl) : PS X (.Assign [.Name x ppos] e pos) (tS T W (letO i f)) := S_letO S hi hx he (swap_no hs)
theorem S_par2 {i j : Nat} {y : Str} {px py pt pt2 : Pos} {kt k2 : Nat} (S : Sok T N sc W k X) (ha : PE X a (tB T W f)) (hb : PE X b (tB T W g)) (hi : N[i]? = some x := by rfl) (hj : N[j]? = some y := by rfl) (hij : i ≠ j := by decide) (hx : sc.names.lookup x = some .local := by rfl) (hy : sc.names.lookup y = some .local := by rfl) (s1 : isStar a = false := by rfl) (s2 : isStar b = false := by rfl)
    (hw : swappedStores [.Tuple [.Name x px, .Name y py] kt pt] (.Tuple [a, b] k2 pt2) (env0 sc) = pure (some [x, y]) := by rfl) : PS X (.Assign [.Tuple [.Name x px, .Name y py] kt pt] (.Tuple [a, b] k2 pt2) pos) (tS T W (par2 i j false false f g)) :=
  bs_par2 (o1 := false) (o2 := false) S hi hj hij hx hy ha hb s1 s2 (by rw [sw_env S.C.hsc]; exact hw)
theorem S_tgt' {te : Expr} {tg : Tg} (S : Sok T N sc W k X) (he : PE X e (tB T W f)) (hg : PG X te (tG T tg)) (ht : isStar te = false := by rfl) (hs : isComp e = false := by rfl) (hw : swappedStores [te] e (env0 sc) = pure none := by rfl) : PS X (.Assign [te] e pos) (tS T W (tgtF tg f)) :=
  S_tgt he hg ht (swap_no hs) (by rw [sw_env S.C.hsc]; exact hw)
end
end BV
set_option Elab.async false
set_option linter.all false
set_option maxRecDepth 100000
set_option maxHeartbeats 1000000
namespace BV
open PySem L2 PySem.Spec PyProof.Rows
open Evl (Ex)
/-- a tuple of the module -/
def TupK (K : PySem.W.Frag) (a : Addr) (vs : List V) : Prop := ∃ (o : Obj) (its : Array Value) (n : Nat), K.lookup a = some o ∧ o.cls = .type "tuple" ∧ o.dict = none ∧ o.data = .seq its n ∧ its.size ≤ sizeLine ∧ Vals vs its.toList
section
variable {T : Tb} {x : Str} {a : Addr} {vs : List V} {ds : List D} {A : AP} {H : Hp}
theorem den_tup (h : TupK T.K a vs) (hd : Dens T A H ds vs) : Den T A H (.tup ds) (.ref a) := by
  obtain ⟨o, its, n, h1, h2, h3, h4, h5, h6⟩ := h
  simp only [Den]
  exact ⟨a, vs, rfl, .inr ⟨o, its, n, h1, h2, h4, h5, h6⟩, hd⟩
theorem gc_tup (hm : T.mg x = some (.ref a)) (h : TupK T.K a vs) (hd : ∀ A H, Dens T A H ds vs) : GC T x (.tup ds) := ⟨.ref a, .ref a, hm, rfl, fun A H => den_tup h (hd A H)⟩
theorem gc_int {i : Int} (h : ∃ t, T.mg x = some (.int i t)) : GC T x (.int i) := by
  obtain ⟨t, h⟩ := h
  exact ⟨.int i, _, h, ⟨t, rfl⟩, fun A H => by simp [Den]⟩
theorem all6 {P : String → Prop} (h1 : P "int") (h2 : P "str") (h3 : P "bool") (h4 : P "tuple") (h5 : P "list") (h6 : P "dict") : ∀ n ∈ tyAsked, P n := by
  intro n h
  simp only [tyAsked, List.mem_cons, List.not_mem_nil, or_false] at h
  rcases h with rfl | rfl | rfl | rfl | rfl | rfl <;> assumption
theorem all7 {P : String → Prop} (h1 : P "NoneType") (h2 : P "bool") (h3 : P "int") (h4 : P "str") (h5 : P "tuple") (h6 : P "list") (h7 : P "dict") : ∀ n ∈ tyNames, P n := by
  intro n h
  simp only [tyNames, List.mem_cons, List.not_mem_nil, or_false] at h
  rcases h with rfl | rfl | rfl | rfl | rfl | rfl | rfl <;> assumption
theorem zip_no {m : Str} : ∀ {names : List Str}, names.contains m = false → ∀ vs : List V, (names.zip vs).lookup m = none
  | [], _, vs => by simp
  | n :: names, h, [] => by simp
  | n :: names, h, v :: vs => by
    simp only [List.contains_cons, Bool.or_eq_false_iff] at h
    simp only [List.zip_cons_cons, List.lookup_cons, h.1]
    exact zip_no h.2 vs
end
end BV
set_option Elab.async false
set_option linter.all false
set_option maxRecDepth 100000
set_option maxHeartbeats 1000000
namespace BV
open PySem L2 PySem.Spec PyProof.Rows
open Evl (Ex)
section
variable {T : Tb} {N : List Str} {sc : Scope} {W : WX} {k : Nat} {fb : Bool} {X : Cx} {O A : AP} {H0 H H' : Hp} {σ : L2.St} {ρ : Rho} {Q : VK} {De : Ends}
variable {a b c d' e o ie : Expr} {f g h f4 fi : Rho → R D} {t : Rho → R Bool} {fl fk : Rho → R (List D)} {p p2 pos apos spos ppos : Pos} {es : List Expr} {kws : List Keyword} {x y z u : Str} {i j l m : Nat}
variable {elt iter tge : Expr} {ifs : List Expr} {scope : Scope} {own : List (Str × Nat)} {tg : Tg} {vs : List Nat} {cond : Rho → R Bool} {eltF : Rho → R D} {items : Rho → R (List D)}
theorem sws_env {v : Expr} {tt : Option Expr} {ln : Nat} {env : Env} (h : env.scope = sc) : swapsWith v tt ln env = swapsWith v tt ln (env0 sc) := by
  unfold swapsWith Env.blockKind Env.kindOf
  rw [h]
  rfl
theorem Post.of_stmt {r0 : R D} {kk : D → Out} (r : Rel T H0 O σ H ρ) (p : PostS T W H0 O (ofR r0 ρ kk) De) (q : ∀ d v H1, Ex H H1 → Rel T H0 O σ H1 ρ → Den T (Av O σ ρ) H1 d v → PostS T W H0 O (kk d) De → Q v H1) : Post T W (Av O σ ρ) σ H r0 Q := by
  induction r0 with
  | ok d => exact fun v H1 e1 hd => q d v H1 e1 (r.mono e1) hd p
  | err c fs => exact fun x H1 e1 hd => p x σ H1 (r.mono e1) hd
  | stuck => exact p
  | any k0 ih => exact fun i => ih i (p i)
theorem PostN.of_stmt {r0 : R D} {kk : D → Out} (r : Rel T H0 O σ H ρ) (p : PostS T W H0 O (ofR r0 ρ kk) De) (q : ∀ d v H1, Ex H H1 → NewD T (Av O σ ρ) H d v H1 → PostS T W H0 O (kk d) De → Q v H1) : PostN T W (Av O σ ρ) σ H r0 Q := by
  induction r0 with
  | ok d => exact fun v H1 e1 hd => q d v H1 e1 hd p
  | err c fs => exact fun x H1 e1 hd => p x σ H1 (r.mono e1) hd
  | stuck => exact p
  | any k0 ih => exact fun i => ih i (p i)
theorem lc_readsN (hsl : ∀ i ∈ tg.slots, i ∈ vs) {Q : VK} (r : Rel T H0 O σ H ρ) (p : PostN T W (Av O σ ρ) σ H (lcF tg vs cond eltF items ρ) Q) : tLc (tI T W items) (tG T tg) (tBT T WF cond) (tB T WF eltF) vs σ H Q := by
  unfold lcF at p
  refine tLc_of hsl r ?_
  generalize items ρ = r0 at p ⊢
  induction r0 with
  | err c fs => exact p
  | stuck => exact p
  | any k0 ih => exact fun i => ih i (p i)
  | ok ds =>
    simp only [R.bind] at p
    split at p
    · rename_i hz
      refine ⟨hz, ?_⟩
      cases q : lcGo tg.bind cond eltF (wipeR ρ vs) ds with
      | ok xs =>
        rw [q] at p
        refine ⟨xs, rfl, fun H1 e1 v H2 e2 hn => ?_⟩
        obtain ⟨q, ws, q1, q2, q3⟩ := hn
        exact p v H2 (e1.trans e2) ⟨q, ws, q1, Evl.fresh_back e1 q2, q3⟩
      | _ => rw [q] at p; exact p.elim
    · exact p.elim
/-- x = [.. for ..], x a plain local -/
theorem S_lc (S : Sok T N sc W k X) (own : List (Str × Nat)) (hi : PI X tge iter (tI T W items))
    (hg : ∀ X', Cok T N (relS scope sc) WF k false X' → PG X' tge (tG T tg)) (ht : ∀ X', Cok T N (relS scope sc) WF k false X' → PTs X' ifs (tBT T WF cond)) (he : ∀ X', Cok T N (relS scope sc) WF k false X' → PE X' elt (tB T WF eltF))
    (hiN : N[i]? = some x := by rfl) (hx : sc.names.lookup x = some .local := by rfl) (hsw : swapsWith (.ListComp elt [⟨tge, iter, ifs, 0⟩] scope pos) (some (.Name x ppos)) spos.line (env0 sc) = pure true := by rfl)
    (ok : BlkOk N sc scope own := by exact ⟨rfl, by decide, by decide, by decide, by decide⟩) (hvs : own.map (·.2) = vs := by rfl) (hsl : ∀ i ∈ tg.slots, i ∈ vs := by decide) (hs : ∀ x, foldedSetIterable iter X.env x = pure x := by intro _; rfl) :
    PS X (.Assign [.Name x ppos] (.ListComp elt [⟨tge, iter, ifs, 0⟩] scope pos) spos) (tS T W (letF i (lcF tg vs cond eltF items))) := by
  subst hvs
  have C := S.C
  refine ps_imp (ps_setLc (i := i) (own := own) C.calm (by rw [C.hN]; exact C.nd) (by rw [C.hN]; exact hiN) (by rw [C.hsc]; exact hx) (by rw [sws_env C.hsc]; exact hsw) hi (by rw [C.hN, C.hsc]; exact ok) (fun s H Ca cl fp => hg _ (C.blk s H scope cl Ca fp)) (fun s H Ca cl fp => ht _ (C.blk s H scope cl Ca fp)) (fun s H Ca cl fp => he _ (C.blk s H scope cl Ca fp)) hs) fun De σ H ⟨H0, O, ρ, r, p⟩ => ?_
  exact lc_reads hsl r (Post.of_stmt r p fun d v H1 e1 r1 d1 p1 => p1 _ H1 (r1.set i d1))
theorem S_lcO (S : Sok T N sc W k X) (own : List (Str × Nat)) (hi : PI X tge iter (tI T W items))
    (hg : ∀ X', Cok T N (relS scope sc) WF k false X' → PG X' tge (tG T tg)) (ht : ∀ X', Cok T N (relS scope sc) WF k false X' → PTs X' ifs (tBT T WF cond)) (he : ∀ X', Cok T N (relS scope sc) WF k false X' → PE X' elt (tB T WF eltF))
    (hiN : N[i]? = some x := by rfl) (hx : sc.names.lookup x = some .local := by rfl) (hsw : swapsWith (.ListComp elt [⟨tge, iter, ifs, 0⟩] scope pos) (some (.Name x ppos)) spos.line (env0 sc) = pure true := by rfl)
    (ok : BlkOk N sc scope own := by exact ⟨rfl, by decide, by decide, by decide, by decide⟩) (hvs : own.map (·.2) = vs := by rfl) (hsl : ∀ i ∈ tg.slots, i ∈ vs := by decide) (hs : ∀ x, foldedSetIterable iter X.env x = pure x := by intro _; rfl) :
    PS X (.Assign [.Name x ppos] (.ListComp elt [⟨tge, iter, ifs, 0⟩] scope pos) spos) (tS T W (letO i (lcF tg vs cond eltF items))) := by
  subst hvs
  have C := S.C
  refine ps_imp (ps_setLc (i := i) (own := own) C.calm (by rw [C.hN]; exact C.nd) (by rw [C.hN]; exact hiN) (by rw [C.hsc]; exact hx) (by rw [sws_env C.hsc]; exact hsw) hi (by rw [C.hN, C.hsc]; exact ok) (fun s H Ca cl fp => hg _ (C.blk s H scope cl Ca fp)) (fun s H Ca cl fp => ht _ (C.blk s H scope cl Ca fp)) (fun s H Ca cl fp => he _ (C.blk s H scope cl Ca fp)) hs) fun De σ H ⟨H0, O, ρ, r, p⟩ => ?_
  exact lc_readsN hsl r (PostN.of_stmt r p fun d v H1 e1 d1 p1 => p1 _ H1 (r.setD i e1 d1))
/-- x = [.. for ..], x a cell -/
theorem S_lcC {ppos : Pos} (S : Sok T N sc W k X) (he : PE X (.ListComp elt [⟨tge, iter, ifs, 0⟩] scope pos) (tB T W f)) (hi : N[i]? = some x := by rfl) (hx : Loc sc x := by first | exact Or.inl rfl | exact Or.inr rfl) (hsw : swapsWith (.ListComp elt [⟨tge, iter, ifs, 0⟩] scope pos) (some (.Name x ppos)) spos.line (env0 sc) = pure false := by rfl) :
    PS X (.Assign [.Name x ppos] (.ListComp elt [⟨tge, iter, ifs, 0⟩] scope pos) spos) (tS T W (letF i f)) := S_let S hi hx he (by rw [sws_env S.C.hsc]; exact hsw)
/-! ### new lists by if, by + -/
theorem tBT.bindN {f : Rho → R Bool} {k : Bool → R D} {Q : VK} {R' : Bool → Hp → Prop} (r : Rel T H0 O σ H ρ) (h : PostN T W (Av O σ ρ) σ H ((f ρ).bind k) Q)
    (q : ∀ b H1, Leaf (f ρ) b → Ex H H1 → Rel T H0 O σ H1 ρ → PostN T W (Av O σ ρ) σ H1 (k b) Q → R' b H1) : tBT T W f σ H R' := by
  refine ⟨H0, O, ρ, r, ?_⟩
  generalize f ρ = r0 at h q ⊢
  induction r0 with
  | ok d => exact fun H1 e1 => q d H1 (.ok d) e1 (r.mono e1) (PostN.mono (r := k d) h e1)
  | err c fs => exact h
  | stuck => exact h
  | any k0 ih => exact fun i => ih i (h i) fun d H1 l => q d H1 (.any l)
theorem N_ite (hc : PT X c (tBT T W t)) (ha : PE X a (tF T W f)) (hb : PE X b (tF T W g)) : PE X (.IfExp c a b pos) (tF T W (iteV t f g)) :=
  pe_imp (pe_ifExp hc ha hb) fun σ H Q ⟨H0, O, ρ, r, p⟩ => tBT.bindN r p fun b H1 _ e1 r1 p1 => by
    cases b with
    | true => exact ⟨H0, O, ρ, r1, p1⟩
    | false => exact ⟨H0, O, ρ, r1, p1⟩
def opCat : D → D → R D
  | .lst x, .lst y => if x.length + y.length ≤ sizeLine then .ok (.lst (x ++ y)) else .stuck
  | _, _ => .stuck
theorem ne_cat : NoErr2 opCat := fun x y => by unfold opCat; split <;> (try rfl) <;> split <;> rfl
theorem op_catN : OpR X (binaryOp .Add) (rDN T opCat) := by
  refine OpR.imp op_cat fun v w H Q h => ?_
  obtain ⟨O, A, x, y, dom, hx, hy, q⟩ := h
  cases x <;> cases y <;> try exact q.elim
  obtain ⟨a, vs, rfl, h1, h2⟩ := hx.lst; obtain ⟨b, ws, rfl, g1, g2⟩ := hy.lst
  simp only [opCat] at q
  split at q
  · rename_i hz
    exact ⟨a, b, vs, ws, rfl, rfl, h1, g1, by rw [h2.length, g2.length]; exact hz, q.lst dom (h2.append g2)⟩
  · exact q.elim
theorem N_add (ha : PE X a (tP T W f)) (hb : PE X b (tP T W g)) : PE X (.BinOp a .Add b pos) (tF T W (bin2 opCat f g)) :=
  pe_imp (pe_op op_catN ha hb) fun σ H Q ⟨H0, O, ρ, r, p⟩ => tP.bindN r p fun x v H1 _ e1 r1 d1 p1 => tP.bindN r1 p1 fun y w H2 _ e2 r2 d2 p2 =>
    ⟨O, Av O σ ρ, x, y, r2.avdom, d1.ex e2, d2, postN_ok (ne_cat x y) p2⟩
/-! ### a, b, c = x, y, z -/
theorem Av.mono {O O' : AP} (h : ∀ a, O a → O' a) : ∀ a, Av O σ ρ a → Av O' σ ρ a := fun a z => z.imp (h a) id
variable {o1 o2 o3 o4 : Bool} {px py pz pu pt pt2 : Pos} {kt k2 : Nat}
def par3 (i j l : Nat) (o1 o2 o3 : Bool) (f g h : Rho → R D) : Rho → Out := fun ρ => ofR (f ρ) ρ fun d => ofR (g ρ) ρ fun e => ofR (h ρ) ρ fun q => .nx (((ρ.set i (some (ownO o1 d, d))).set j (some (ownO o2 e, e))).set l (some (ownO o3 q, q)))
theorem S_par3 (S : Sok T N sc W k X) (ha : PE X a (tE T W o1 f)) (hb : PE X b (tE T W o2 g)) (hc : PE X c (tE T W o3 h)) (hi : N[i]? = some x := by rfl) (hj : N[j]? = some y := by rfl) (hl : N[l]? = some z := by rfl) (hij : i ≠ j := by decide) (hil : i ≠ l := by decide) (hjl : j ≠ l := by decide)
    (hx : sc.names.lookup x = some .local := by rfl) (hy : sc.names.lookup y = some .local := by rfl) (hz : sc.names.lookup z = some .local := by rfl) (s1 : isStar a = false := by rfl) (s2 : isStar b = false := by rfl) (s3 : isStar c = false := by rfl)
    (hw : swappedStores [.Tuple [.Name x px, .Name y py, .Name z pz] kt pt] (.Tuple [a, b, c] k2 pt2) (env0 sc) = pure (some [x, y, z]) := by rfl) :
    PS X (.Assign [.Tuple [.Name x px, .Name y py, .Name z pz] kt pt] (.Tuple [a, b, c] k2 pt2) pos) (tS T W (par3 i j l o1 o2 o3 f g h)) := by
  refine ps_imp (ps_par3 (i := i) (j := j) (l := l) S.C.calm (by rw [S.C.hN]; exact S.C.nd) (by rw [S.C.hN]; exact hi) (by rw [S.C.hN]; exact hj) (by rw [S.C.hN]; exact hl) hij hil hjl (by rw [S.C.hsc]; exact hx) (by rw [S.C.hsc]; exact hy) (by rw [S.C.hsc]; exact hz) (pa_cons ha (pa_cons hb (pa_cons hc pa_nil (star_cons s3)) (star_cons s2)) (star_cons s1)) (by rw [sw_env S.C.hsc]; exact hw) rfl) fun De σ H ⟨H0, O, ρ, r, p⟩ => ?_
  refine tE.stmt r p fun d v H1 e1 n1 p1 => tE.stmt' (r.moreAt e1 n1) (p1.more fun _ => .inl) fun e w H2 q2 e2 n2 => ?_
  have p1 := q2.stmt p1
  refine tE.stmt' ((r.moreAt e1 n1).moreAt e2 n2) (PostS.more p1 fun _ z => .inl (.inl z)) fun q x3 H3 q3 e3 n3 => ⟨v, w, x3, rfl, ?_⟩
  have p1 := q3.stmt p1
  refine p1 _ H3 (((r.setO i e1 n1).setO j e2 (n2.weak Av.after)).setO l e3 (n3.weak fun a z => ?_))
  have z1 := Av.after a z
  have z2 := Av.after a z1
  exact Av.mono (fun a z => z.elim (fun z => z.elim (fun z => .inl (.inl z)) .inr) (fun z => .inl (.inr z))) a z2
end
end BV
set_option Elab.async false
set_option linter.all false
set_option maxRecDepth 100000
set_option maxHeartbeats 4000000
namespace BV
open PySem L2 PySem.Spec PyProof.Rows
open Evl (Ex)
/-! ### a tuple, once -/
theorem tuple_mul1 (l : Addr) (items : Array Value) (n : Nat) (dd : Option Addr) (sl : Array (Option Value)) (u : Tok) :
    Meets (Builtin.«tuple.__mul__» ⟨[.ref l, .int 1 u], []⟩) (fun _ R s => s.heap.get? l = some { cls := .type "tuple", dict := dd, data := .seq items n, slots := sl } ∧ R (.ok (.ret (Value.ref l))) s) :=
  .of_wp fun prog w A R s h => by
    obtain ⟨hp, g, d, tk, os⟩ := s
    obtain ⟨hl, h⟩ := h
    have f1 := AutoSeq1.idx_int
    have c1 : (items.isEmpty || (1 : Int) == 1) = true := by simp
    wp_walk using wpAny_loadPart' hl
    repeat (first
      | (refine wpAny_ite_true (decide_eq_true (by rw [c1])) ?_; wp_walk using wpAny_loadPart' hl))
    exact ⟨_, rfl, h⟩
section
variable {T : Tb} {N : List Str} {sc : Scope} {W : WX} {k : Nat} {fb : Bool} {X : Cx} {O A : AP} {H0 H H' : Hp} {σ : L2.St} {ρ : Rho} {Q : VK} {De : Ends}
variable {a b c d' e o ie : Expr} {f g h f4 fi : Rho → R D} {t : Rho → R Bool} {fl fk : Rho → R (List D)} {p p2 pos apos spos ppos : Pos} {es : List Expr} {kws : List Keyword} {x y z u : Str} {i j l m : Nat}
theorem op_repT1 : OpR X (binaryOp .Mult) (fun x y H Q => ∃ l xs, x = .ref l ∧ y = .int 1 ∧ SqT X.K H l xs ∧ Q (.ref l) H) := by
  intro pins s σ H x y v u Q I rx ry h
  obtain ⟨l, xs, rfl, rfl, hT, q⟩ := h
  cases rx
  obtain ⟨t, rfl⟩ := ry
  obtain ⟨its, r, ⟨⟨cls, dd, data, sl⟩, ho, hc, n, hd⟩, hs⟩ := I.tuple hT
  simp only at hc hd
  subst hc hd
  refine wpAny_binaryOp_repeat_ref (T := "tuple") (U := "int") (by decide) ⟨_, ho, rfl⟩ (fun s' => typeIs_int s' 1 t) noFill_tuple_mul F.fills_int_mul F.slot_int_rmul repeat_tuple F.slot_int_index.lookup
    (call_meets F.slot_int_rmul (typeIs_int s 1 t) F.entry_int_rmul (F.args_int_rmul_2 _ _) (int_rmul_tuple 1 t l its.toArray n dd sl)
      ⟨ho, rfl, ⟨_, ho, rfl⟩, call_meets F.slot_tuple_mul ⟨_, ho, rfl⟩ F.entry_tuple_mul (F.args_tuple_mul_2 _ _) (tuple_mul1 l its.toArray n dd sl t) ⟨ho, ?_⟩⟩)
  exact ⟨.ref l, H, I, rfl, q⟩
def opMulT : D → D → R D
  | .tup x, .int k => if k = 1 then .ok (.tup x) else if 2 ≤ k ∧ k ≤ 1000 ∧ x.length ≤ 1000 ∧ 0 < x.length then .ok (.tup (List.replicate k.toNat x).flatten) else .stuck
  | _, _ => .stuck
theorem ne_mulT : NoErr2 opMulT := fun x y => by unfold opMulT; split <;> (try rfl); split <;> (try rfl); split <;> rfl
theorem op_mulT (hK : X.K = T.K) : OpR X (binaryOp .Mult) (rD T opMulT) := by
  refine OpR.imp (op_repT1.or op_repT) fun v w H Q h => ?_
  obtain ⟨O, A, x, y, dom, hx, hy, q⟩ := h
  cases x <;> cases y <;> try exact q.elim
  obtain ⟨a, vs, rfl, h1, h2⟩ := hx.tup; obtain rfl := hy.int
  simp only [opMulT] at q
  split at q
  · rename_i hk
    subst hk
    exact .inl ⟨a, vs, rfl, rfl, by rw [hK]; exact h1, q.same (by simp only [Den]; exact ⟨a, vs, rfl, h1, h2⟩)⟩
  · split at q
    · rename_i hz
      rw [← hK] at h1
      have hl := h2.length
      exact .inr ⟨a, _, vs, rfl, rfl, h1, (fun e => by subst e; simp at hl; omega), hz.1, hz.2.1, (by omega), q.tup (h2.rep _)⟩
    · exact q.elim
theorem E_mulT (C : Cok T N sc W k fb X) (ha : PE X a (tP T W f)) (hb : PE X b (tP T W g)) : PE X (.BinOp a .Mult b pos) (tB T W (bin2 opMulT f g)) := be_bin ne_mulT (op_mulT C.hK) ha hb
/-! ### a, b, c, d = w, x, y, z -/
variable {o1 o2 o3 o4 : Bool} {px py pz pu pt pt2 : Pos} {kt k2 : Nat}
def par4 (i j l m : Nat) (o1 o2 o3 o4 : Bool) (f g h f4 : Rho → R D) : Rho → Out := fun ρ => ofR (f ρ) ρ fun d => ofR (g ρ) ρ fun e => ofR (h ρ) ρ fun q => ofR (f4 ρ) ρ fun q4 =>
  .nx ((((ρ.set i (some (ownO o1 d, d))).set j (some (ownO o2 e, e))).set l (some (ownO o3 q, q))).set m (some (ownO o4 q4, q4)))
theorem S_par4 (S : Sok T N sc W k X) (ha : PE X a (tE T W o1 f)) (hb : PE X b (tE T W o2 g)) (hc : PE X c (tE T W o3 h)) (hd : PE X d' (tE T W o4 f4)) (hi : N[i]? = some x := by rfl) (hj : N[j]? = some y := by rfl) (hl : N[l]? = some z := by rfl) (hm : N[m]? = some u := by rfl)
    (hx : sc.names.lookup x = some .local := by rfl) (hy : sc.names.lookup y = some .local := by rfl) (hz : sc.names.lookup z = some .local := by rfl) (hu : sc.names.lookup u = some .local := by rfl) (s1 : isStar a = false := by rfl) (s2 : isStar b = false := by rfl) (s3 : isStar c = false := by rfl) (s4 : isStar d' = false := by rfl)
    (hw : swappedStores [.Tuple [.Name x px, .Name y py, .Name z pz, .Name u pu] kt pt] (.Tuple [a, b, c, d'] k2 pt2) (env0 sc) = pure none := by rfl) :
    PS X (.Assign [.Tuple [.Name x px, .Name y py, .Name z pz, .Name u pu] kt pt] (.Tuple [a, b, c, d'] k2 pt2) pos) (tS T W (par4 i j l m o1 o2 o3 o4 f g h f4)) := by
  have C := S.C
  have nm : ∀ {n : Nat} {y : Str} {q : Pos}, N[n]? = some y → sc.names.lookup y = some .local → PG X (.Name y q) (gName n) := fun hn hy => pg_name (by rw [C.hN]; exact C.nd) (by rw [C.hN]; exact hn) (by rw [C.hsc]; exact .inl hy) (by rw [C.hsc]; exact .inr hy)
  refine ps_imp (ps_asg (pe_tup (pa_cons ha (pa_cons hb (pa_cons hc (pa_cons hd pa_nil (star_cons s4)) (star_cons s3)) (star_cons s2)) (star_cons s1))) (pg_tup C.calm (pgs_cons (nm hi hx) (pgs_cons (nm hj hy) (pgs_cons (nm hl hz) (pgs_cons (nm hm hu) pgs_nil))))) (by rfl) (by rw [sw_env S.C.hsc]; exact hw) rfl) fun De σ H ⟨H0, O, ρ, r, p⟩ => ?_
  refine tE.stmt r p fun d v H1 e1 n1 p1 => tE.stmt' (r.moreAt e1 n1) (p1.more fun _ => .inl) fun e w H2 q2 e2 n2 => ?_
  have p1 := q2.stmt p1
  refine tE.stmt' ((r.moreAt e1 n1).moreAt e2 n2) (PostS.more p1 fun _ z => .inl (.inl z)) fun q x3 H3 q3 e3 n3 => ?_
  have p1 := q3.stmt p1
  refine tE.stmt' (((r.moreAt e1 n1).moreAt e2 n2).moreAt e3 n3) (PostS.more p1 fun _ z => .inl (.inl (.inl z))) fun q' x4 H4 q4 e4 n4 => ⟨by show 4 ≤ sizeLine; decide, fun ta hta => ?_⟩
  have p1 := q4.stmt p1
  have ex := Ex.new (o := .tup [v, w, x3, x4]) hta
  refine ⟨ta, [v, w, x3, x4], rfl, .inl (.inl upd_same), rfl, v, _, rfl, w, _, rfl, x3, _, rfl, x4, _, rfl, rfl, ?_⟩
  have R1 := r.setO i e1 n1
  have R2 := R1.setO j e2 (n2.weak Av.after)
  have R3 := R2.setO l e3 (n3.weak fun a z => by
    have z1 := Av.after a z
    have z2 := Av.after a z1
    exact Av.mono (fun a z => z.elim (fun z => z.elim (fun z => .inl (.inl z)) .inr) (fun z => .inl (.inr z))) a z2)
  have R4 := R3.setO m e4 (n4.weak fun a z => by
    have z1 := Av.after a z
    have z2 := Av.after a z1
    have z3 := Av.after a z2
    exact Av.mono (fun a z => z.elim (fun z => z.elim (fun z => z.elim (fun z => .inl (.inl (.inl z))) .inr) (fun z => .inl (.inr z))) (fun z => .inl (.inl (.inr z)))) a z3)
  exact p1 _ _ (R4.mono ex)
/-! ### more targets -/
theorem nmG (C : Cok T N sc W k fb X) {n : Nat} {y : Str} {q : Pos} (hn : N[n]? = some y) (hy : Loc sc y) (hf : X.fn y = true ∨ sc.names.lookup y = some .local) : PG X (.Name y q) (gName n) := pg_name (by rw [C.hN]; exact C.nd) (by rw [C.hN]; exact hn) (by rw [C.hsc]; exact hy) (by rw [C.hsc]; exact hf)
/-- all names of a list -/
inductive Nms (X : Cx) (N : List Str) (sc : Scope) : List Expr → List Nat → Prop
  | nil : Nms X N sc [] []
  | cons {y : Str} {q : Pos} {n : Nat} {es : List Expr} {is : List Nat} : N[n]? = some y → Loc sc y → (X.fn y = true ∨ sc.names.lookup y = some .local) → Nms X N sc es is → Nms X N sc (.Name y q :: es) (n :: is)
theorem Nms.len {es : List Expr} {is : List Nat} (h : Nms X N sc es is) : es.length = is.length := by induction h <;> simp_all
theorem Nms.star {es : List Expr} {is : List Nat} (h : Nms X N sc es is) : noStar es = true := by
  induction h with
  | nil => rfl
  | cons _ _ _ _ ih => simp only [noStar, List.all_cons, Bool.and_eq_true]; exact ⟨rfl, ih⟩
theorem Nms.at {es : List Expr} {is : List Nat} (C : Cok T N sc W k fb X) (h : Nms X N sc es is) : ∀ (j : Nat) e i, es[j]? = some e → is[j]? = some i → PG X e (gName i) := by
  induction h with
  | nil => intro j e i h; simp at h
  | cons a b c _ ih =>
    intro j e i h1 h2
    cases j with
    | zero => simp at h1 h2; subst h1 h2; exact nmG C a b c
    | succ j => exact ih j e i (by simpa using h1) (by simpa using h2)
theorem G_tn {es : List Expr} {is : List Nat} {kk : Nat} {q : Pos} (C : Cok T N sc W k fb X) (h : Nms X N sc es is) : PG X (.Tuple es kk q) (tG T (.t is)) := bg_tup C h.len (h.at C) h.star
/-! ### x[i], y = e -/
theorem sole_no {te e : Expr} {l : Nat} {env : Env} (h : isComp e = false) : swapsWithSole [te] e l env = pure false := swap_no (target := some te) h
def sub2F (i j : Nat) (fi f : Rho → R D) : Rho → Out := fun ρ => ofR (f ρ) ρ fun
  | .tup [dx, dy] => (match ρ[i]? with
    | some (some (true, .lst ds)) => ofR (fi ρ) ρ fun
      | .int n => (match ixN ds.length n with | some m => .nx ((ρ.set i (some (true, .lst (ds.set m dx)))).set j (some (false, dy))) | none => .stuck)
      | _ => .stuck
    | _ => .stuck)
  | _ => .stuck
theorem S_sub2 {q1 q2 : Pos} (S : Sok T N sc W k X) (he : PE X e (tB T W f)) (hie : PE X ie (tB T W fi)) (hi : N[i]? = some x := by rfl) (hj : N[j]? = some y := by rfl) (hv : Vis sc x := by first | exact Or.inl rfl | exact Or.inr (Or.inl rfl)) (hy : Loc sc y := by first | exact Or.inl rfl | exact Or.inr rfl)
    (hd : (x == ("__debug__" : Str)) = false := by decide) (hcd : (x == ("__classdict__" : Str)) = false := by decide)
    (ha : ∀ v, assign (.Subscript (.Name x p) ie p2) X.env v = (do
      let ov ← holding [v] (eval (.Name x p) X.env)
      let iv ← holding [v, ov] (eval ie X.env)
      standAt p2
      holding [v, ov, iv] (setItem ov iv v)
      release [v, ov, iv] []) := by intro _; rfl)
    (hs : isComp e = false := by rfl) (hw : swappedStores [.Tuple [.Subscript (.Name x p) ie p2, .Name y q1] kt q2] e (env0 sc) = pure none := by rfl) :
    PS X (.Assign [.Tuple [.Subscript (.Name x p) ie p2, .Name y q1] kt q2] e pos) (tS T W (sub2F i j fi f)) := by
  have C := S.C
  refine ps_imp (ps_asg he (pg_tup C.calm (pgs_cons (pg_sub (pe_var (i := i) (by rw [C.hN]; exact hi) (by rw [C.hsc]; exact hv) hd hcd) hie set_list ha) (pgs_cons (nmG C hj hy (.inl (C.hfn rfl _))) pgs_nil))) (sole_no hs) (by rw [sw_env C.hsc]; exact hw) rfl) fun De σ H ⟨H0, O, ρ, r, p⟩ => ?_
  unfold sub2F at p
  refine tB.stmt r p fun d v H1 x1 r1 d1 p1 => ?_
  split at p1
  · rename_i dx dy
    split at p1
    · rename_i ds hi2
      simp only [Den, Dens] at d1
      obtain ⟨ta, vs, rfl, ht, v1, _, rfl, hd1, v2, _, rfl, hd2, rfl⟩ := d1
      obtain ⟨a, e1, e2, ws, e3, e4⟩ := r1.own i _ hi2
      refine ⟨ta, _, rfl, by rw [C.hK]; exact ht, rfl, v1, _, rfl, ?_⟩
      refine ⟨_, e1, tB.stmt r1 p1 fun dj w H2 x2 r2 d2 p2 => ?_⟩
      split at p2
      · rename_i n
        simp only [Den] at d2
        subst d2
        split at p2
        · rename_i m hm
          refine ⟨a, ws, n, m, rfl, rfl, x2 _ _ e3, by rw [e4.length]; exact hm, v2, _, rfl, rfl, p2 _ _ ?_⟩
          have r3 := r2.updL hi2 e1 (Dens.set m (e4.ex x2) (hd1.ex x2))
          refine r3.set j ?_
          have own1 : Av O σ ρ a := .inr ⟨i, _, hi2, e1⟩
          have own2 : ∀ b, Av O σ (ρ.set i (some (true, .lst (ds.set m dx)))) b → Av O σ ρ b := fun b z => by
            rcases z with z | ⟨l, g, z1, z2⟩
            · exact .inl z
            · by_cases hl : i = l
              · subst hl; exact .inr ⟨i, _, hi2, z2⟩
              · rw [List.getElem?_set_ne hl] at z1; exact .inr ⟨l, g, z1, z2⟩
          exact (Den.upd own1 (by rw [x2 _ _ e3]; trivial) (hd2.ex x2)).weak own2
        · exact p2.elim
      · exact p2.elim
    · exact p1.elim
  · exact p1.elim
/-! ### keyword-only parameters of a def -/
variable {yy qual : Str} {params : Arguments} {body : List Stmt} {scope : Scope} {kvs : List (Str × V)} {fa : Addr} {fd : FuncData} {ps : List Str}
theorem shape_all {n m : Nat} (F : FunD T.K yy qual params body scope [] kvs fa fd) (ks : List Str) (hk : kvs ≠ []) (hm : ks.length = m)
    (h : ∀ (D : Addr) (doc pm : Value) (an : Option Addr) (cdv ct : Value) (us ws : List Value), us.length = n → ws.length = m → bindArgs (PySem.W.fnOf yy qual params body scope .none (.ref D) doc pm an cdv ct) ⟨us, ks.zip ws⟩ = pure (ps.zip (us ++ ws))) :
    ShapeOk T fd ps n ks (srcP n ++ srcK m) := by
  subst hm
  obtain ⟨mv, kb⟩ := F.kbinds0 (ps := ps) n ks [] (fun us _ ws => us ++ ws) hk (fun q hq => by cases hq) (fun r1 _ r3 => r1.append r3) (fun D doc pm an cdv ct us mv ws l1 _ l3 => h D doc pm an cdv ct us ws l1 l3)
  refine ⟨_, _, kb, fun O H ds vs es zs h1 h2 l1 l2 => ?_⟩
  rw [bind_app, bind_p l1, bind_k l2]
  exact h1.append h2
theorem shape_none {n : Nat} {dfs : List D} (F : FunD T.K yy qual params body scope [] kvs fa fd) (hk : kvs ≠ []) (hd : ∀ O H, Dens T O H dfs (kvs.map (·.2)))
    (h : ∀ (D : Addr) (doc pm : Value) (an : Option Addr) (cdv ct : Value) (us mv : List Value), us.length = n → mv.length = kvs.length → KwChain D ((kvs.map (·.1)).zip mv) (bindArgs (PySem.W.fnOf yy qual params body scope .none (.ref D) doc pm an cdv ct) ⟨us, []⟩) (ps.zip (us ++ mv))) :
    ShapeOk T fd ps n [] (srcP n ++ dfs.map .df) := by
  obtain ⟨mv, kb⟩ := F.kbinds0 (ps := ps) n [] kvs (fun us mv _ => us ++ mv) hk (fun q hq => hq) (fun r1 r2 _ => r1.append r2) (fun D doc pm an cdv ct us mv ws l1 l2 l3 => h D doc pm an cdv ct us mv l1 l2)
  refine ⟨_, _, kb, fun O H ds vs es zs h1 h2 l1 l2 => ?_⟩
  rw [bind_app, bind_p l1, bind_d]
  exact h1.append (hd _ _)
end
end BV
set_option Elab.async false
set_option linter.all false
set_option maxRecDepth 100000
set_option maxHeartbeats 4000000
namespace BV
open PySem L2 PySem.Spec PyProof.Rows
open Evl (Ex)
section
variable {T : Tb} {N : List Str} {sc : Scope} {W : WX} {k : Nat} {fb : Bool} {X : Cx} {O A : AP} {H0 H H' : Hp} {σ : L2.St} {ρ : Rho} {Q : VK} {De : Ends}
variable {a b c d' e o ie : Expr} {f g h f4 fi : Rho → R D} {t : Rho → R Bool} {fl fk : Rho → R (List D)} {p p2 pos apos spos ppos : Pos} {es : List Expr} {kws : List Keyword} {x y z u : Str} {i j l m : Nat} {Φ : Nat → Fn} {F : Rho → Out}
/-! ### defs as values -/
theorem gc_fn {i : Nat} (h : T.mg x = some (.ref (T.cls i))) : GC T x (.fn i) := ⟨.ref _, .ref _, h, rfl, fun A H => by simp [Den]⟩
/-- what is known of a def that is a value -/
structure FvOk (T : Tb) (Φ : Nat → Fn) (kf n : Nat) (ks : List Str) (src : List Src) (M : List D → R D) (i fi : Nat) : Prop where
  ok : OkB T Φ kf fi src.length M
  ad : (Φ fi).addr = T.cls i
  kp : PySem.W.keepIn T.K (.ref (Φ fi).addr) = true
  sh : ShapeOk T (Φ fi).fd (Φ fi).ps n ks src
def callV (n m : Nat) (src : List Src) (M : Nat → List D → R D) (alts : List Nat) (f : Rho → R D) (fl fk : Rho → R (List D)) : Rho → R D := fun ρ => (f ρ).bind fun
  | .fn i => if alts.contains i then (fl ρ).bind fun ds => (fk ρ).bind fun es => if ds.length = n ∧ es.length = m then M i (bindS src ds es) else .stuck else .stuck
  | _ => .stuck
theorem E_fnV {kf n : Nat} {ks : List Str} {src : List Src} {M : Nat → List D → R D} {alts : List Nat} {ix : Nat → Nat} (C : Cok T N sc W k fb X) (i : Nat) (hF : ∀ j ∈ alts, FvOk T Φ kf n ks src (M j) j (ix j))
    (ha : PA X es (tBs T W fl)) (hkw : PK X kws (tBs T W fk)) (hk : kf ≤ k := by decide) (hN : N[i]? = some x := by rfl) (hv : Vis sc x := by first | exact Or.inl rfl | exact Or.inr (Or.inl rfl) | exact Or.inr (Or.inr rfl)) (h1 : noStar es = true := by rfl) (h2 : kwNames kws = some ks := by rfl) (hn : es = [] → fl = nilL := by intro h; first | rfl | cases h)
    (hdb : (x == ("__debug__" : Str)) = false := by decide) (hcd : (x == ("__classdict__" : Str)) = false := by decide) : PE X (.Call (.Name x p) es kws pos) (tB T W (callV n ks.length src M alts (rdV i) fl fk)) := by
  refine ⟨fun pins s σ H Q I h => ?_⟩
  obtain ⟨H0, O, ρ, r, q⟩ := h
  unfold callV rdV at q
  split at q
  · rename_i d ed
    simp only [R.bind] at q
    cases d with
    | fn jj =>
      simp only at q
      split at q
      · rename_i hal
        have fv := hF jj (by simpa using hal)
        obtain ⟨v, e1, e2⟩ := r.val i _ ed
        simp only [Den] at e2
        subst e2
        obtain ⟨gv, gV, kb, sd⟩ := fv.sh
        have q' : tBs T W fl σ H fun vs H1 => tBs T W fk σ H1 fun zs H2 => vs.length = n ∧ zs.length = ks.length ∧ spB T src.length (M jj) (gV vs zs) H2 Q (WE W σ) := by
          refine tBs.bind r q fun ds vs H1 _ e1 r1 d1 p1 => tBs.bind r1 p1 fun es zs H2 _ e2 r2 d2 p2 => ?_
          split at p2
          · rename_i hl
            exact ⟨by rw [d1.length]; exact hl.1, by rw [d2.length]; exact hl.2, Av O σ ρ, bindS src ds es, r2.avdom, sd _ _ _ _ _ _ (d1.ex e2) d2 hl.1 hl.2, by simp [bindS], post_F p2⟩
          · exact p2.elim
        refine wpAny_Call_Name_kw (thn ((pe_var (X := X) (i := i) (by rw [C.hN]; exact hN) (by rw [C.hsc]; exact hv) hdb hcd).run pins s σ H (fun v' H' => v' = .ref (T.cls jj) ∧ H' = H) I ⟨_, e1, rfl, rfl⟩) fun u s1 ⟨v', H', I', rv, ev, eH⟩ => ?_)
        subst ev eH
        cases rv
        refine callWith_any (first := []) (by rw [C.hK, ← fv.ad]; exact fv.kp) ha hkw h1 h2 (fun e σ H K z => by rw [hn e] at z; exact nil_ok z) I' q' fun us ws s2 vs zs H2 I2 rv rz ⟨l1, l2, q2⟩ => ?_
        have FF := C.fn fv.ok
        rw [fv.ad] at FF
        exact run_fnD FF (C.room.mono hk) (by rw [C.hK]; exact kb) (passAt C.tk σ) I2 rv rz l1 l2 q2
      · exact q.elim
    | _ => exact q.elim
  · exact q.elim
/-! ### try .. except C: x = x + n -/
theorem try_split {cs : List Nat} {cat : Nat → Bool} {G : List D → Rho → Out} {De : Ends} {W1 : WX} (p : PostS T W H0 O (tryF cs cat F G ρ) De)
    (hW : ∀ c fs ρ', True → c ∈ cs → ∀ y σ1 H1, Rel T H0 O σ1 H1 ρ' → ErrDen T (Av O σ1 ρ') H1 c fs y → (cat c = true → PostS T W H0 O (G fs ρ') De → W1 (.ref (T.cls c)) y σ1 H1) ∧ (cat c = false → W (.ref (T.cls c)) y σ1 H1 → W1 (.ref (T.cls c)) y σ1 H1)) :
    PostS T W1 H0 O (F ρ) De := by
  unfold tryF at p
  generalize F ρ = o at p ⊢
  induction o with
  | any k0 ih => exact fun i => ih i (p i)
  | err c fs ρ' =>
    simp only [tryO] at p
    split at p
    · rename_i hcs
      intro y σ1 H1 r1 hd1
      obtain ⟨w1, w2⟩ := hW c fs ρ' trivial (by simpa using hcs) y σ1 H1 r1 hd1
      cases hb : cat c with
      | true => rw [if_pos hb] at p; exact w1 hb p
      | false => rw [if_neg (by rw [hb]; exact Bool.false_ne_true)] at p; exact w2 hb (p y σ1 H1 r1 hd1)
    · exact p.elim
  | nx ρ' => exact p
  | rt d => exact p
  | bk ρ' => exact p
  | ct ρ' => exact p
  | stuck => exact p
theorem S_tryInc {body : List Stmt} {xv : Value} {cs : List Nat} {cat : Nat → Bool} {nn : Int} {i jn : Nat} {np p3 p4 p5 p6 p7 p8 : Pos} (S : Sok T N sc W k X) (hc : Names X x xv) (hcat : ∀ c ∈ cs, PySem.W.exmOne T.K (.ref (T.cls c)) xv = some (cat c))
    (hb : ∀ (W' : WX) (X' : Cx), Sok T N sc W' k X' → X'.env = X.env → PSs X' body (tS T W' F)) (hi : N[i]? = some y := by rfl) (hl : sc.names.lookup y = some .local := by rfl) (hd : (y == ("__debug__" : Str)) = false := by decide) (hcd : (y == ("__classdict__" : Str)) = false := by decide) :
    PS X (.Try body [.ExceptHandler (some (.Name x np)) none [.Assign [.Name y p5] (.BinOp (.Name y p6) .Add (.Constant (.int nn) jn p7) p8) p3] p4] [] [] pos)
      (tS T W (tryF cs cat F fun _ ρ' => match ρ'[i]? with | some (some (false, .int z)) => .nx (ρ'.set i (some (false, .int (z + nn)))) | _ => .stuck)) := by
  refine ps_imp (ps_try_only (tb := fun W' => tS T W' F) (ts := fun _ _ _ => tAsg (tOp (rI0 fun i j => .int (i + j)) (tVar i) (tC (.int nn))) (gName i)) S.hs S.hf hc S.C.tk (fun W' pn xe tk po => hb W' _ ⟨⟨S.C.hP, S.C.hw, S.C.hmg, S.C.hbase, S.C.hfn, S.C.hK, S.C.nd, S.C.hN, S.C.hsc, S.C.calm, tk, S.C.room⟩, po, S.hs, S.hf⟩ rfl)
    (fun a oe cls d pn hz hf => pss_one (ps_set (i := i) (by show X.N.Nodup; rw [S.C.hN]; exact S.C.nd) (by show X.N[i]? = _; rw [S.C.hN]; exact hi) (by show Loc X.env.scope y; rw [S.C.hsc]; exact .inl hl) (pe_op op_add (pe_var (i := i) (by show X.N[i]? = _; rw [S.C.hN]; exact hi) (by show Vis X.env.scope y; rw [S.C.hsc]; exact .inl hl) hd hcd) pe_int) (swap_no rfl) (.inl (S.C.hfn rfl y))))) fun De σ H ⟨H0, O, ρ, r, p⟩ => ⟨H0, O, ρ, r, ?_⟩
  refine try_split p fun c fs ρ' eF hcs y' σ1 H1 r1 hd1 => ⟨fun hb1 pp => ?_, fun hb1 w => ?_⟩
  · refine ⟨true, by rw [S.C.hK]; rw [hcat c hcs, hb1], fun _ => ?_, fun z => nomatch z⟩
    intro a ha
    split at pp
    · rename_i z hz
      obtain ⟨v, e1, e2⟩ := r1.val i _ hz
      simp only [Den] at e2
      subst e2
      refine ⟨_, e1, _, _, rfl, rfl, pp _ _ (r1.set i (by simp [Den]))⟩
    · exact pp.elim
  · exact ⟨false, by rw [S.C.hK]; rw [hcat c hcs, hb1], fun z => absurd z Bool.false_ne_true, fun _ => w⟩
end
end BV
set_option Elab.async false
set_option linter.all false
set_option maxRecDepth 100000
set_option maxHeartbeats 4000000
namespace BV
open PySem L2 PySem.Spec PyProof.Rows
open Evl (Ex)
section
variable {T : Tb} {N : List Str} {sc : Scope} {W : WX} {k : Nat} {fb : Bool} {X : Cx} {O A : AP} {H0 H H' : Hp} {σ : L2.St} {ρ : Rho} {Q : VK} {De : Ends}
variable {a b c d' e o ie : Expr} {f g h f4 fi : Rho → R D} {t : Rho → R Bool} {fl fk : Rho → R (List D)} {p p2 pos apos spos ppos : Pos} {es : List Expr} {kws : List Keyword} {x y z u fld : Str} {i j l m : Nat} {Φ : Nat → Fn} {F : Rho → Out}
/-! ### except C as e: return A if e.f is None else e.f -/
theorem S_tryN {body : List Stmt} {cx i kn k1 : Nat} {cs : List Nat} {cat : Nat → Bool} {n : Str} {nn : Int} {np p3 p4 p5 p6 p7 p8 p9 q1 q2 q3 q4 : Pos} (S : Sok T N sc W k X) (hc : Names X x (.ref (T.cls cx))) (hcat : ∀ c ∈ cs, PySem.W.exmOne T.K (.ref (T.cls c)) (.ref (T.cls cx)) = some (cat c)) (hcx : ∀ c ∈ cs, cat c = true → c = cx)
    (hfl : T.flds cx = [fld]) (hX : XfC T.K (T.cls cx)) (hno : PySem.W.findIn T.K (.ref (T.cls cx)) fld = some none)
    (hb : ∀ (W' : WX) (X' : Cx), Sok T N sc W' k X' → X'.env = X.env → PSs X' body (tS T W' F)) (hi : N[i]? = some n := by rfl) (hln : sc.names.lookup n = some .local := by rfl) (hnd : (n == ("__debug__" : Str)) = false := by decide) (hncd : (n == ("__classdict__" : Str)) = false := by decide) :
    PS X (.Try body [.ExceptHandler (some (.Name x np)) (some n) [.Return (some (.IfExp (.Compare (.Attribute (.Name n p5) fld p6) [.Is] [.Constant .none k1 p7] p8) (.UnaryOp .USub (.Constant (.int nn) kn p9) q1) (.Attribute (.Name n q2) fld q3) q4)) p3] p4] [] [] pos)
      (tS T W (tryF cs cat F fun fs ρ' => match fs with | [d] => if i < ρ'.length then .rt (if d.isNon then .int (-nn) else d) else .stuck | _ => .stuck)) := by
  have hvis : Vis sc n := .inl hln
  have xf : ∀ (a : Addr) (oe : Obj) (cls : Value) (d : Option Addr) (pn : List (Addr × Obj)) (hz : Zc cls d oe) (hf : ∃ vs, oe.data = .fields vs) (qa qb : Pos), PE (X.suite a ((a, oe) :: pn)) (.Attribute (.Name n qa) fld qb) (tXf a cls d (T.cls cx) fld (tVar i)) :=
    fun a oe cls d pn hz hf qa qb => pe_xf (by rw [S.C.hK]; exact hX) (by rw [S.C.hK]; exact hno) hz hf (pe_var (i := i) (by show X.N[i]? = _; rw [S.C.hN]; exact hi) (by show Vis X.env.scope n; rw [S.C.hsc]; exact hvis) hnd hncd)
  refine ps_imp (ps_try_as (i := i) (tb := fun W' => tS T W' F) (ts := fun a cls d => tRet (tIf (tTest (tOp (fun x y H Q => y = .non ∧ Q (.bl (decide (x = .non))) H) (tXf a cls d (T.cls cx) fld (tVar i)) (tC .non))) (tUn (rU fun i => .int (-i)) (tC (.int nn))) (tXf a cls d (T.cls cx) fld (tVar i)))) S.hs S.hf (by rw [S.C.hN]; exact S.C.nd) (by rw [S.C.hN]; exact hi) (by show X.env.scope.names.lookup n = _; rw [S.C.hsc]; exact hln) hc S.C.tk
    (fun W' pn xe tk po => hb W' _ ⟨⟨S.C.hP, S.C.hw, S.C.hmg, S.C.hbase, S.C.hfn, S.C.hK, S.C.nd, S.C.hN, S.C.hsc, S.C.calm, tk, S.C.room⟩, po, S.hs, S.hf⟩ rfl)
    (fun a oe cls d pn hz hf => pss_one (ps_ret (pe_ifExp (pt_cmpR op_isN (xf a oe cls d pn hz hf _ _) pe_non rfl) (pe_un un_neg pe_int) (xf a oe cls d pn hz hf _ _))))) fun De σ H ⟨H0, O, ρ, r, p⟩ => ⟨H0, O, ρ, r, ?_⟩
  refine try_split p fun c fs ρ' eF hcs y' σ1 H1 r1 hd1 => ⟨fun hb1 pp => ?_, fun hb1 w => ?_⟩
  · refine ⟨true, by rw [S.C.hK]; rw [hcat c hcs, hb1], fun _ => ?_, fun z => nomatch z⟩
    obtain rfl := hcx c hcs hb1
    intro a ha
    split at pp
    · rename_i d
      obtain ⟨dd, vs, rfl, h2, h3, h4⟩ := hd1
      simp only [Dens] at h4
      obtain ⟨v, rr, rfl, h5, rfl⟩ := h4
      rw [hfl] at h2
      split at pp
      · rename_i hil
        rw [r1.len] at hil
        have eN := SDen.isN (Den.s h5)
        refine ⟨_, List.getElem?_set_self hil, rfl, rfl, dd, _, v, rfl, h2, by simp [List.lookup], rfl, decide (v = .non), rfl, ?_⟩
        cases hN : d.isNon with
        | true =>
          rw [hN] at eN pp
          rw [eN, if_pos rfl]
          exact ⟨_, rfl, pp (.int (-nn)) H1 r1.ex r1.dom (by simp [Den])⟩
        | false =>
          rw [hN] at eN pp
          rw [eN, if_neg Bool.false_ne_true]
          exact ⟨_, List.getElem?_set_self hil, rfl, rfl, dd, _, v, rfl, h2, by simp [List.lookup], pp v H1 r1.ex r1.dom (h5.weak fun a z => .inl z)⟩
      · exact pp.elim
    · exact pp.elim
  · exact ⟨false, by rw [S.C.hK]; rw [hcat c hcs, hb1], fun z => absurd z Bool.false_ne_true, fun _ => w⟩
end
end BV
set_option Elab.async false
set_option linter.all false
set_option maxRecDepth 100000
set_option maxHeartbeats 4000000
namespace BV
open PySem L2 PySem.Spec PyProof.Rows
open Evl (Ex)
section
variable {T : Tb} {N : List Str} {sc : Scope} {W : WX} {k : Nat} {fb : Bool} {X : Cx} {O A : AP} {H0 H H' : Hp} {σ : L2.St} {ρ : Rho} {Q : VK} {De : Ends} {pins : List (Addr × Obj)} {s : Shared}
variable {a b c d' e o ie : Expr} {f g h f4 fi : Rho → R D} {t : Rho → R Bool} {fl fk : Rho → R (List D)} {p p2 pos apos spos ppos : Pos} {es : List Expr} {kws : List Keyword} {x y z u fld : Str} {i j l m : Nat} {Φ : Nat → Fn} {F : Rho → Out}
def okSort (ps : List PyData) : Bool := (ps.all fun p => ps.all fun q => PySem.W.alike p q) && ((ps.all fun p => match p with | .tuple (_ :: _) => true | _ => false) || (ps.all fun p => match p with | .tuple _ => false | .none => false | _ => true)) && ps.all fun p => decide (p.depth ≤ 60)
theorem okSort_alike {ps : List PyData} (h : okSort ps = true) : PySem.W.AllAlike ps := by
  simp only [okSort, Bool.and_eq_true, List.all_eq_true] at h
  exact fun d hd d' hd' => h.1.1 d hd d' hd'
theorem okSort_sortable {ps : List PyData} (h : okSort ps = true) : PySem.W.Sortable ps := by
  simp only [okSort, Bool.and_eq_true, Bool.or_eq_true, List.all_eq_true] at h
  rcases h.1.2 with h | h
  · refine .inl fun d hd => ?_
    have := h d hd
    split at this
    · exact ⟨_, _, rfl⟩
    · cases this
  · refine .inr fun d hd => ?_
    have := h d hd
    split at this
    · cases this
    · cases this
    · rename_i n1 n2
      exact ⟨n2, n1⟩
theorem okSort_depth {ps : List PyData} (h : okSort ps = true) : ∀ d ∈ ps, d.depth ≤ 60 := by
  simp only [okSort, Bool.and_eq_true, List.all_eq_true, decide_eq_true_eq] at h
  exact h.2
def biSorted : List D → R D
  | [.lst ds] => match D.toPs ds with
    | some ps => if okSort ps && decide (ds.length ≤ sizeLine) then .ok (.lst (((ds.zip ps).mergeSort (PySem.W.dataLe false (·.2))).map (·.1))) else .stuck
    | none => .stuck
  | _ => .stuck
theorem toPs_len : ∀ {ds : List D} {ps : List PyData}, D.toPs ds = some ps → ps.length = ds.length
  | [], ps, h => by simp [D.toPs] at h; subst h; rfl
  | d :: ds, ps, h => by
    simp only [D.toPs] at h
    split at h
    · rename_i p qs e1 e2
      simp at h; subst h
      simp [toPs_len e2]
    · cases h
theorem each_sort (hK : X.K = T.K) (I : Inv X pins σ H s) : ∀ {ds : List D} {ws : List V} {its : List Value} {ps : List PyData}, Dens T A H ds ws → Vals ws its → D.toPs ds = some ps →
    PySem.W.EachIs (fun v (b : D × PyData) => ∃ x : V, RelV x v ∧ Den T A H b.1 x) its (ds.zip ps) ∧ PySem.W.EachIs (fun v (b : D × PyData) => ∃ as, Reads s.heap v b.2 as) its (ds.zip ps)
  | [], ws, its, ps, hd, hv, hp => by
    simp only [Dens] at hd; subst hd
    cases hv
    simp [D.toPs] at hp; subst hp
    exact ⟨.nil, .nil⟩
  | d :: ds, ws, its, ps, hd, hv, hp => by
    simp only [Dens] at hd
    obtain ⟨v, r, rfl, h1, h2⟩ := hd
    cases hv with
    | cons rv rr =>
      simp only [D.toPs] at hp
      split at hp
      · rename_i p qs e1 e2
        simp at hp; subst hp
        obtain ⟨g1, g2⟩ := each_sort hK I h2 rr e2
        have dp := h1.dp e1
        rw [← hK] at dp
        exact ⟨.cons ⟨v, rv, h1⟩ g1, .cons (Dp.reads I p v _ dp rv) g2⟩
      · cases hp
theorem each_back : ∀ {out : List Value} {bs : List (D × PyData)}, PySem.W.EachIs (fun v (b : D × PyData) => ∃ x : V, RelV x v ∧ Den T A H b.1 x) out bs → ∃ ys : List V, Vals ys out ∧ Dens T A H (bs.map (·.1)) ys
  | _, _, .nil => ⟨[], .nil, .nil⟩
  | _, _, .cons ⟨x, h1, h2⟩ r => by
    obtain ⟨ys, g1, g2⟩ := each_back r
    exact ⟨x :: ys, .cons h1 g1, .cons h2 g2⟩
theorem c_sorted (hK : X.K = T.K) (hu : X.A.units + 65 < cLine) : CallR X (.builtin "sorted") (rC T biSorted) := by
  intro pins s σ H vs us Q I r h
  obtain ⟨O, A, ds, dom, hd, q⟩ := h
  unfold biSorted at q
  split at q
  · rename_i ds
    split at q
    · rename_i ps hps
      split at q
      · rename_i hok
        simp only [Bool.and_eq_true, decide_eq_true_eq] at hok
        obtain ⟨hok, hz⟩ := hok
        obtain ⟨v, rfl, h1⟩ := hd.one
        obtain ⟨a, ws, rfl, h2, h3⟩ := h1.lst
        rw [Vals.ref1 r]
        obtain ⟨its, rv, hl, hzz⟩ := I.list (show SqL X.K H a ws from .inl (.inl h2))
        obtain ⟨g1, g2⟩ := each_sort hK I h3 rv hps
        have hlen := toPs_len hps
        have hmap : (ds.zip ps).map (·.2) = ps := List.map_snd_zip (by omega)
        refine PySem.W.sorted_data (enc := fun b : D × PyData => b.2) hl.isList g1 g2 (by rw [hmap]; exact okSort_alike hok) (by rw [hmap]; exact okSort_sortable hok) (by rw [List.length_zip]; omega) (fun b hb => ?_) fun out ho hR => ?_
        · have : b.2 ∈ ps := by rw [← hmap]; exact List.mem_map_of_mem hb
          have := okSort_depth hok _ this
          omega
        · obtain ⟨ys, y1, y2⟩ := each_back hR
          obtain ⟨ep, he'⟩ := PyProof.Rows.sortedAll_at s.heap its out.toArray
          have hyl : ys.length ≤ sizeLine := by
            rw [y2.length, List.length_map, List.length_mergeSort, List.length_zip]; omega
          exact ⟨.ref _, upd H (s.heap.objs.size + 1) (.lst ys), I.laid (t' := s.toks) (fun _ _ => PyProof.Rows.sortedAll_old) (Nat.le_succ _) ⟨hyl, out, ep, y1, he'⟩, rfl, q.lst dom y2 _ (I.hok.fresh (Nat.le_succ _))⟩
      · exact q.elim
    · exact q.elim
  · exact q.elim
theorem ne_sorted : NoErr1 biSorted := fun x => by unfold biSorted; split <;> (try rfl); split <;> (try rfl); split <;> rfl
theorem E_sorted (C : Cok T N sc W k fb X) (hm : T.mg "sorted" = none) (ha : PA X [e] (tPs T W fl)) (hg : sc.names.lookup ("sorted" : Str) = some .globalImplicit := by rfl) (h1 : isStar e = false := by rfl) : PE X (.Call (.Name "sorted" p) [e] [] pos) (tB T W (appL biSorted fl)) :=
  be_callB ne_sorted (c_sorted C.hK C.u65) (C.gl hg) (C.mgn hm) (by decide +kernel) ha (by decide) (by decide) (star_cons h1) rfl
end
end BV
set_option Elab.async false
set_option linter.all false
set_option maxRecDepth 100000
set_option maxHeartbeats 4000000
namespace BV
open PySem L2 PySem.Spec PyProof.Rows
open Evl (Ex)
section
variable {T : Tb} {N : List Str} {sc : Scope} {W : WX} {k : Nat} {fb : Bool} {X : Cx} {O A : AP} {H0 H H' : Hp} {σ : L2.St} {ρ : Rho} {Q : VK} {De : Ends}
variable {a b c d' e o ie : Expr} {f g h f4 fi : Rho → R D} {t : Rho → R Bool} {fl fk : Rho → R (List D)} {p p2 pos apos spos ppos : Pos} {es : List Expr} {kws : List Keyword} {x y z u fld : Str} {i j l m : Nat} {Φ : Nat → Fn} {F : Rho → Out}
/-! ### is, is not of bools -/
def opIsB : D → D → R D
  | .bl a, .bl b => .ok (.bl (decide (a = b)))
  | _, _ => .stuck
def opNotB : D → D → R D
  | .bl a, .bl b => .ok (.bl (!decide (a = b)))
  | _, _ => .stuck
theorem ne_isB : NoErr2 opIsB := fun x y => by unfold opIsB; split <;> rfl
theorem ne_notB : NoErr2 opNotB := fun x y => by unfold opNotB; split <;> rfl
theorem R_isB : CR X T .Is opIsB := ⟨ne_isB, OpR.imp op_isBl fun v w H Q h => by
  obtain ⟨O, A, x, y, dom, hx, hy, q⟩ := h
  cases x <;> cases y <;> try exact q.elim
  obtain rfl := hx.bl; obtain rfl := hy.bl
  exact ⟨_, _, rfl, rfl, q.bl⟩⟩
theorem R_notB : CR X T .IsNot opNotB := ⟨ne_notB, OpR.imp op_notBl fun v w H Q h => by
  obtain ⟨O, A, x, y, dom, hx, hy, q⟩ := h
  cases x <;> cases y <;> try exact q.elim
  obtain rfl := hx.bl; obtain rfl := hy.bl
  exact ⟨_, _, rfl, rfl, q.bl⟩⟩
theorem S_par2' {o1 o2 : Bool} {i j : Nat} {y : Str} {px py pt pt2 : Pos} {kt k2 : Nat} (S : Sok T N sc W k X) (ha : PE X a (tE T W o1 f)) (hb : PE X b (tE T W o2 g)) (hi : N[i]? = some x := by rfl) (hj : N[j]? = some y := by rfl) (hij : i ≠ j := by decide) (hx : sc.names.lookup x = some .local := by rfl) (hy : sc.names.lookup y = some .local := by rfl) (s1 : isStar a = false := by rfl) (s2 : isStar b = false := by rfl)
    (hw : swappedStores [.Tuple [.Name x px, .Name y py] kt pt] (.Tuple [a, b] k2 pt2) (env0 sc) = pure (some [x, y]) := by rfl) : PS X (.Assign [.Tuple [.Name x px, .Name y py] kt pt] (.Tuple [a, b] k2 pt2) pos) (tS T W (par2 i j o1 o2 f g)) :=
  bs_par2 (o1 := o1) (o2 := o2) S hi hj hij hx hy ha hb s1 s2 (by rw [sw_env S.C.hsc]; exact hw)
theorem N_lst (h : PA X es (tBs T W fl)) : PE X (.List es pos) (tF T W (mkL fl)) := bf_lst h
theorem N_list (C : Cok T N sc W k fb X) (hm : T.mg "list" = none) (ha : PA X [e] (tPs T W fl)) (hg : sc.names.lookup ("list" : Str) = some .globalImplicit := by rfl) (h1 : isStar e = false := by rfl) : PE X (.Call (.Name "list" p) [e] [] pos) (tF T W (appL biList fl)) := bf_list C (C.gl hg) (C.mgn hm) ha (star_cons h1) rfl
theorem E_isiT {sub : Nat → Nat → Bool} {cs : List Nat} {ts : List Ty} {tns : List Expr} {x1} {tpos : Pos} (C : Cok T N sc W k fb X) (hm : T.mg "isinstance" = none) (hi : ∀ c ∈ cs, InsOk T c) (tk : ∀ t ∈ ts, TyOk T sub cs t)
    (hts : ∀ (i : Nat) tn t, tns[i]? = some tn → ts[i]? = some t → PTy X T tn t ∧ isStar tn = false) (he : PE X e (tP T W f)) (hl : tns.length = ts.length := by rfl) (hz : ts.length ≤ 100 := by decide) (hg : sc.names.lookup ("isinstance" : Str) = some .globalImplicit := by rfl) (h1 : isStar e = false := by rfl) :
    PE X (.Call (.Name "isinstance" p) [e, .Tuple tns x1 tpos] [] pos) (tB T W (bndF (isiF sub cs ts) f)) := be_isiT C hi tk hl hz hts he (C.gl hg) (C.mgn hm) h1
theorem tys2 {t1 t2 : Ty} {e1 e2 : Expr} (h1 : PTy X T e1 t1) (h2 : PTy X T e2 t2) (s1 : isStar e1 = false := by rfl) (s2 : isStar e2 = false := by rfl) : ∀ (i : Nat) tn t, [e1, e2][i]? = some tn → [t1, t2][i]? = some t → PTy X T tn t ∧ isStar tn = false := by
  intro i tn t a b
  match i with
  | 0 => simp at a b; subst a b; exact ⟨h1, s1⟩
  | 1 => simp at a b; subst a b; exact ⟨h2, s2⟩
  | n + 2 => simp at a
theorem tyk2 {sub : Nat → Nat → Bool} {cs : List Nat} {t1 t2 : Ty} (h1 : TyOk T sub cs t1) (h2 : TyOk T sub cs t2) : ∀ t ∈ [t1, t2], TyOk T sub cs t := by
  intro t h
  simp only [List.mem_cons, List.not_mem_nil, or_false] at h
  rcases h with rfl | rfl <;> assumption
theorem S_raiseP {c : Nat} {m : Str} {j : Nat} {p3 p : Pos} (S : Sok T N sc W k X) (q : PySem.W.excIn T.K (T.cls c) PySem.HandSPX.veTail "ValueError.__new__" = true) (kC : PySem.W.keepIn T.K (.ref (T.cls c)) = true) (h1 : PySem.W.subIn T.K (.ref (T.cls c)) (.type "BaseException") = some true) (h2 : PySem.W.typeIn T.K (.ref (T.cls c)) = some (.type "type"))
    (hfl : T.flds c = []) (hx : T.mg x = some (.ref (T.cls c))) (hg : sc.names.lookup x = some .globalImplicit := by rfl) (hdb : (x == ("__debug__" : Str)) = false := by decide) :
    PS X (.Raise (some (.Call (.Name x p) [.Constant (.str m) j p3] [] p2)) none pos) (tS T W (raiseP c)) := bs_raiseP S q kC h1 h2 hfl (S.C.gl hg) (S.C.mgs hx) hdb
/-- tuples within tuples of the module -/
theorem den_tups {a : Addr} {vs : List V} {ds : List D} {A : AP} {H : Hp} (h : TupK T.K a vs) (hd : Dens T A H ds vs) : Den T A H (.tup ds) (.ref a) := den_tup h hd
end
end BV
set_option Elab.async false
set_option linter.all false
set_option maxRecDepth 100000
set_option maxHeartbeats 1000000
namespace BV
open PySem L2 PySem.Spec PyProof.Rows
open Evl (Ex)

section
variable {T : Tb} {W : WX} {X : Cx} {O A : AP} {H0 H H' : Hp} {σ : L2.St} {ρ : Rho} {pins : List (Addr × Obj)} {s : Shared}
/-! ### keys -/
mutual
theorem Den.nis (I : Inv X pins σ H s) (hK : X.K = T.K) : ∀ {d : D} {v : V} {u : Value} {k : NestedKey}, Den T O H d v → RelV v u → d.toK = some k → NestedIs s.heap k u
  | .non, _, _, _, h, r, e => by
    simp only [Den] at h; subst h
    simp only [D.toK, Option.some.injEq] at e; subst e
    cases (show _ = Value.none from r); exact .none
  | .bl b, _, _, _, h, r, e => by
    simp only [Den] at h; subst h
    simp only [D.toK, Option.some.injEq] at e; subst e
    cases (show _ = Value.bool b from r); exact .bool rfl
  | .int i, _, _, _, h, r, e => by
    simp only [Den] at h; subst h
    simp only [D.toK, Option.some.injEq] at e; subst e
    obtain ⟨t, rfl⟩ := (show ∃ t, _ = Value.int i t from r); exact .int _ _
  | .str x, _, _, _, h, r, e => by
    simp only [Den] at h; subst h
    simp only [D.toK, Option.some.injEq] at e; subst e
    obtain ⟨t, rfl⟩ := (show ∃ t, _ = Value.str x t from r); exact .text _ _
  | .tup ds, _, _, _, h, r, e => by
    simp only [Den] at h
    obtain ⟨a, vs, rfl, h1, h2⟩ := h
    simp only [D.toK, Option.map_eq_some_iff] at e
    obtain ⟨ns, e1, rfl⟩ := e
    cases (show _ = Value.ref a from r)
    obtain ⟨its, q1, q2, _⟩ := I.tuple (by rw [hK]; exact h1)
    obtain ⟨o, q3, q4, n, q5⟩ := q2
    exact .tup q3 q4 q5 (by simpa using Dens.nis I hK h2 q1 e1)
  | .lst _, _, _, _, _, _, e => by simp [D.toK] at e
  | .drw _, _, _, _, _, _, e => by simp [D.toK] at e
  | .scr _, _, _, _, _, _, e => by simp [D.toK] at e
  | .dct _ _, _, _, _, _, _, e => by simp [D.toK] at e
  | .fn _, _, _, _, _, _, e => by simp [D.toK] at e
  | .ins _ _, _, _, _, _, _, e => by simp [D.toK] at e
theorem Dens.nis (I : Inv X pins σ H s) (hK : X.K = T.K) : ∀ {ds : List D} {vs : List V} {us : List Value} {ks : List NestedKey}, Dens T O H ds vs → Vals vs us → D.toKs ds = some ks → NestedAll s.heap ks us
  | [], _, _, _, h, r, e => by
    simp only [Dens] at h; subst h
    simp only [D.toKs, Option.some.injEq] at e; subst e
    cases r; exact .nil
  | d :: ds, _, _, _, h, r, e => by
    simp only [Dens] at h
    obtain ⟨v, r', rfl, a, b⟩ := h
    cases r with
    | cons r1 r2 =>
      simp only [D.toKs] at e
      cases e1 : d.toK with
      | none => rw [e1] at e; simp at e
      | some p =>
        cases e2 : D.toKs ds with
        | none => rw [e1, e2] at e; simp at e
        | some ps =>
          rw [e1, e2] at e
          simp at e; subst e
          exact .cons (Den.nis I hK a r1 e1) (Dens.nis I hK b r2 e2)
end
/-- the value at a key -/
def kAt (k : NestedKey) : List D → List D → Option D
  | kd :: ks, v :: vs => if kd.toK = some k then some v else kAt k ks vs
  | _, _ => none
/-- a value is put at a key -/
def kPut (k : NestedKey) (v : D) : List D → List D → List D
  | kd :: ks, d :: ds => if kd.toK = some k then v :: ds else d :: kPut k v ks ds
  | _, ds => ds
abbrev En2 := NestedKey × Addr × Value
def EnR (e : En) (x : En2) : Prop := e.1 = x.1 ∧ e.2.1 = .ref x.2.1 ∧ RelV e.2.2 x.2.2
theorem isTK_depth {k : NestedKey} (h : isTK k = true) : k.depth ≤ 8 := by
  cases k with
  | tup ks => simpa [isTK] using h
  | _ => simp [isTK] at h
theorem isTK_tup {d : D} {k : NestedKey} (h : isTK k = true) (e : d.toK = some k) : ∃ ds, d = .tup ds := by
  cases d with
  | tup ds => exact ⟨ds, rfl⟩
  | non => simp [D.toK] at e; subst e; simp [isTK] at h
  | bl b => simp [D.toK] at e; subst e; simp [isTK] at h
  | int b => simp [D.toK] at e; subst e; simp [isTK] at h
  | str b => simp [D.toK] at e; subst e; simp [isTK] at h
  | _ => simp [D.toK] at e
/-- the key of an entry -/
theorem key_is {d : D} {v : V} {u : Value} {k : NestedKey} (I : Inv X pins σ H s) (hK : X.K = T.K) (h : Den T O H d v) (r : RelV v u) (e : d.toK = some k) (t : isTK k = true) : ∃ b, v = .ref b ∧ u = .ref b ∧ (nestedKind X.prog X.w).is s.heap k b := by
  obtain ⟨ds, rfl⟩ := isTK_tup t e
  have n := Den.nis I hK h r e
  simp only [Den] at h
  obtain ⟨a, vs, rfl, h1, h2⟩ := h
  cases (show u = Value.ref a from r)
  exact ⟨a, rfl, rfl, n, isTK_depth t⟩
theorem ents_of (I : Inv X pins σ H s) (hK : X.K = T.K) (hw : X.w = T.w) : ∀ {es : List En} {ks : List D} {l : List DictEntry}, Paired (fun (e : En) (x : DictEntry) => x.hash = NestedKey.hash T.w e.1 ∧ RelV e.2.1 x.key ∧ RelV e.2.2 x.val) es l →
    ks.map D.toK = (es.map fun e => e.1).map some → (∀ k ∈ es.map fun e => e.1, isTK k = true) → Dens T O H ks (es.map fun e => e.2.1) →
    ∃ xs : List En2, l = xs.map (entryOfKey (nestedKind X.prog X.w)) ∧ (∀ x ∈ xs, (nestedKind X.prog X.w).is s.heap x.1 x.2.1) ∧ Paired EnR es xs
  | [], ks, _, .nil, _, _, _ => ⟨[], rfl, fun _ h => by simp at h, .nil⟩
  | e :: es, [], _, _, h, _, _ => by simp at h
  | e :: es, kd :: ks, _, .cons (b := x) (l₂ := l) p q, hk, ht, hd => by
    simp only [List.map_cons, List.cons.injEq] at hk
    obtain ⟨d1, d2⟩ := hd.uncons
    obtain ⟨b, e1, e2, e3⟩ := key_is I hK d1 p.2.1 hk.1 (ht _ (by simp))
    obtain ⟨xs, h1, h2, h3⟩ := ents_of I hK hw q hk.2 (fun k h => ht k (by simp only [List.map_cons, List.mem_cons]; exact .inr h)) d2
    refine ⟨(e.1, b, x.val) :: xs, ?_, fun y hy => ?_, .cons ⟨rfl, e1, p.2.2⟩ h3⟩
    · rw [List.map_cons, ← h1]
      congr 1
      obtain ⟨xh, xk, xv⟩ := x
      simp only at p e2
      rw [entryOfKey]
      simp only [e2, p.1]
      rw [← hw]; rfl
    · rcases List.mem_cons.mp hy with rfl | hy
      · exact e3
      · exact h2 y hy
theorem ents_fst : ∀ {es : List En} {xs : List En2}, Paired EnR es xs → (xs.map fun x => x.1) = es.map fun e => e.1
  | _, _, .nil => rfl
  | _, _, .cons p q => by rw [List.map_cons, List.map_cons, ents_fst q, p.1]
/-- the dict as the library tells it -/
theorem dict_of {a : Addr} {es : Es} {ks : List D} (I : Inv X pins σ H s) (hK : X.K = T.K) (hw : X.w = T.w) (e : H a = some (DictO T.w a es)) (k : KOk ks (es.1.map fun e => e.1)) (tk : ∀ k ∈ es.1.map fun e => e.1, isTK k = true) (d : Dens T O H ks (es.1.map fun e => e.2.1)) :
    (a == sysModules) = false ∧ ∃ xs : List En2, s.heap.DictOfH (nestedKind X.prog X.w) a xs ∧ Paired EnR es.1 xs ∧ xs.length ≤ sizeLine := by
  obtain ⟨⟨h0, o, ea, h1, h2, h3, h4⟩, _⟩ := (show ObjOk X.prog X.w H s.heap a (DictO T.w a es) from I.hok a _ e)
  obtain ⟨xs, q1, q2, q3⟩ := ents_of I hK hw h4 k.eq tk d
  refine ⟨h0, xs, ⟨o, ea, es.2, h1, h2, h3, q1, q2, by have := ents_fst q3; exact this ▸ k.nd⟩, q3, ?_⟩
  have l1 := Paired.length q3
  have l2 : ks.length = es.1.length := by have := congrArg List.length k.eq; simpa using this
  have := k.le
  omega
theorem atKey_of : ∀ {es : List En} {xs : List En2} {ks vs : List D} {k : NestedKey}, Paired EnR es xs → ks.map D.toK = (es.map fun e => e.1).map some → Dens T A H vs (es.map fun e => e.2.2) →
    match kAt k ks vs with
    | some d => ∃ b u v, atKey xs k = some (b, u) ∧ RelV v u ∧ Den T A H d v
    | none => atKey xs k = none
  | [], _, ks, vs, k, .nil, hk, hd => by
    have : ks = [] := by simpa using hk
    subst this
    simp [kAt, atKey]
  | e :: es, _, [], _, _, _, hk, _ => by simp at hk
  | e :: es, _, kd :: ks, vs, k, .cons (b := x) (l₂ := xs) p q, hk, hd => by
    simp only [List.map_cons, List.cons.injEq] at hk
    cases vs with
    | nil => have := hd.length; simp at this
    | cons v vs =>
      obtain ⟨d1, d2⟩ := hd.uncons
      have ih := atKey_of (k := k) q hk.2 d2
      rw [kAt]
      by_cases h : e.1 = k
      · rw [if_pos (by rw [hk.1, h])]
        have hx : x.1 = k := by rw [← p.1]; exact h
        exact ⟨x.2.1, x.2.2, e.2.2, by simp [atKey, hx], p.2.2, d1⟩
      · rw [if_neg (by rw [hk.1]; simpa using h)]
        have hx : ¬ x.1 = k := by rw [← p.1]; exact h
        have : atKey (x :: xs) k = atKey xs k := by simp [atKey, hx]
        rw [this]
        exact ih

/-! ### in, not in, d[k] -/
def tkD (d : D) : Option NestedKey := match d.toK with
  | some k => if isTK k = true then some k else none
  | none => none
theorem tkD_some {d : D} {k : NestedKey} (h : tkD d = some k) : d.toK = some k ∧ isTK k = true := by
  unfold tkD at h
  split at h
  · split at h
    · simp only [Option.some.injEq] at h; subst h; exact ⟨by assumption, by assumption⟩
    · cases h
  · cases h
def allTK (ks : List D) : Bool := ks.all fun d => (tkD d).isSome
theorem allTK_of : ∀ {ks : List D} {ns : List NestedKey}, ks.map D.toK = ns.map some → allTK ks = true → ∀ k ∈ ns, isTK k = true
  | [], ns, e, _, k, hk => by have : ns = [] := by simpa using e.symm
                              subst this; simp at hk
  | d :: ks, [], e, _, _, _ => by simp at e
  | d :: ks, n :: ns, e, h, k, hk => by
    simp only [List.map_cons, List.cons.injEq] at e
    simp only [allTK, List.all_cons, Bool.and_eq_true] at h
    rcases List.mem_cons.mp hk with rfl | hk
    · obtain ⟨k', hk'⟩ := Option.isSome_iff_exists.mp h.1
      obtain ⟨q1, q2⟩ := tkD_some hk'
      rw [e.1] at q1; simp only [Option.some.injEq] at q1; subst q1; exact q2
    · exact allTK_of e.2 h.2 k hk
/-- the answer of a look into a dict -/
def lookK (x y : D) (F : Option D → R D) : R D := match y with
  | .dct ks vs => (match tkD x with
    | some k => if allTK ks = true then F (kAt k ks vs) else .stuck
    | none => .stuck)
  | _ => .stuck
theorem lookK_dct {x : D} {ks vs : List D} {k : NestedKey} {F : Option D → R D} (h1 : tkD x = some k) (h2 : allTK ks = true) : lookK x (.dct ks vs) F = F (kAt k ks vs) := by simp [lookK, h1, h2]
theorem lookK_inv {x y : D} {F : Option D → R D} {Q : VK} (h : okP T A H (lookK x y F) Q) : ∃ ks vs k, y = .dct ks vs ∧ tkD x = some k ∧ allTK ks = true ∧ okP T A H (F (kAt k ks vs)) Q := by
  unfold lookK at h
  split at h
  · split at h
    · split at h
      · exact ⟨_, _, _, rfl, by assumption, by assumption, h⟩
      · exact h.elim
    · exact h.elim
  · exact h.elim
def opInK (x y : D) : R D := lookK x y fun o => .ok (.bl o.isSome)
def opNinK (x y : D) : R D := lookK x y fun o => .ok (.bl (!o.isSome))
def opIxK (y x : D) : R D := lookK x y fun
  | some d => .ok d
  | none => .stuck
theorem ne_look {F : Option D → R D} (hF : ∀ o, (F o).lf = true) : ∀ x y, (lookK x y F).lf = true := fun x y => by
  unfold lookK
  split
  · split
    · split
      · exact hF _
      · rfl
    · rfl
  · rfl
theorem ne_inK : NoErr2 opInK := fun x y => ne_look (fun _ => rfl) x y
theorem ne_ninK : NoErr2 opNinK := fun x y => ne_look (fun _ => rfl) x y
theorem ne_ixK : NoErr2 opIxK := fun x y => ne_look (fun o => by cases o <;> rfl) y x
theorem sden_key {d : D} {v : V} {k : NestedKey} (h : SDen T O A H d v) (e : tkD d = some k) : Den T A H d v := by
  obtain ⟨q1, q2⟩ := tkD_some e
  obtain ⟨ds, rfl⟩ := isTK_tup q2 q1
  exact h
/-- what a look into a dict asks and gives -/
theorem look_of {x y : D} {v w : V} {u z : Value} {F : Option D → R D} {Q : VK} (I : Inv X pins σ H s) (hK : X.K = T.K) (hw : X.w = T.w) (ru : RelV v u) (rz : RelV w z) (hx : SDen T O A H x v) (hy : SDen T O A H y w) (h : okP T A H (lookK x y F) Q) :
    ∃ a b k xs o, u = .ref b ∧ z = .ref a ∧ (nestedKind X.prog X.w).is s.heap k b ∧ (a == sysModules) = false ∧ s.heap.DictOfH (nestedKind X.prog X.w) a xs ∧ okP T A H (F o) Q ∧
      (match o with
      | some d => ∃ b u v, atKey xs k = some (b, u) ∧ RelV v u ∧ Den T A H d v
      | none => atKey xs k = none) := by
  obtain ⟨ks, vs, k, rfl, h1, h2, h3⟩ := lookK_inv h
  obtain ⟨a, es, rfl, e1, e2, e3, e4, e5⟩ := hy
  cases (show z = Value.ref a from rz)
  obtain ⟨q1, q2⟩ := tkD_some h1
  obtain ⟨b, rfl, rfl, kb⟩ := key_is I hK (sden_key hx h1) ru q1 q2
  obtain ⟨hs, xs, d1, d2, _⟩ := dict_of I hK hw e1 e3 (allTK_of e3.eq h2) e4
  exact ⟨a, b, k, xs, _, rfl, rfl, kb, hs, d1, h3, atKey_of d2 e3.eq e5⟩
theorem room_nk {prog : Program} {w : World} {A : Around} (hu : A.units + 64 < cLine) : (nestedKind prog w).room A.in1 := by show A.units + 1 + 8 < cLine; omega
theorem op_inK (hK : X.K = T.K) (hw : X.w = T.w) (hu : X.A.units + 64 < cLine) : OpR X (compareOp .In) (rD T opInK) := by
  intro pins s σ H v w u z Q I ru rz h
  obtain ⟨O, A, x, y, dom, hx, hy, q⟩ := h
  obtain ⟨a, b, k, xs, o, rfl, rfl, kb, hs, dd, q2, q3⟩ := look_of I hK hw ru rz hx hy q
  refine wpAny_in_heap (room_nk hu) kb hs dd ?_
  have e : (atKey xs k).isSome = o.isSome := by
    cases o with
    | none => rw [q3]; rfl
    | some d => obtain ⟨b, u, v, e, _⟩ := q3; rw [e]; rfl
  rw [e]
  exact ⟨.bl o.isSome, H, I.tok _, rfl, q2.bl⟩
theorem op_ninK (hK : X.K = T.K) (hw : X.w = T.w) (hu : X.A.units + 64 < cLine) : OpR X (compareOp .NotIn) (rD T opNinK) := by
  intro pins s σ H v w u z Q I ru rz h
  obtain ⟨O, A, x, y, dom, hx, hy, q⟩ := h
  obtain ⟨a, b, k, xs, o, rfl, rfl, kb, hs, dd, q2, q3⟩ := look_of I hK hw ru rz hx hy q
  refine wpAny_notIn_heap (room_nk hu) kb hs dd ?_
  have e : (atKey xs k).isSome = o.isSome := by
    cases o with
    | none => rw [q3]; rfl
    | some d => obtain ⟨b, u, v, e, _⟩ := q3; rw [e]; rfl
  rw [e]
  exact ⟨.bl (!o.isSome), H, I.tok _, rfl, q2.bl⟩
theorem R_inK {N : List Str} {sc : Scope} {k : Nat} {fb : Bool} (C : Cok T N sc W k fb X) : CR X T .In opInK := ⟨ne_inK, op_inK C.hK C.hw C.u64⟩
theorem R_ninK {N : List Str} {sc : Scope} {k : Nat} {fb : Bool} (C : Cok T N sc W k fb X) : CR X T .NotIn opNinK := ⟨ne_ninK, op_ninK C.hK C.hw C.u64⟩
theorem ix_K (hK : X.K = T.K) (hw : X.w = T.w) (hu : X.A.units + 64 < cLine) : IxR X (rD T opIxK) := by
  intro value slice pins s σ H v w u z Q I ru rz h hsub
  obtain ⟨O, A, x, y, dom, hx, hy, q⟩ := h
  obtain ⟨a, b, k, xs, o, rfl, rfl, kb, hs, dd, q2, q3⟩ := look_of I hK hw rz ru hy hx q
  cases o with
  | none => exact q2.elim
  | some d =>
    obtain ⟨c, r, vv, e1, e2, e3⟩ := q3
    have hT := dd.typeIs (s := s)
    unfold subscriptTail
    refine wpAny_bind ?_
    rw [getitemInPython_of_ne hT.not_modules]
    refine wpAny_bind (wpAny_specialOf hT PySem.F.slot_dict_getitem.lookup ?_)
    have fin : wpAny (model X.prog X.w) X.A (subscripted slice false (.ref a) (.ref b)) (fun r s₃ => wpAny (model X.prog X.w) X.A (letTemporaryGo value (.ref a) r >>= fun _ => pure r) (EP X pins σ Q) X.xe s₃) X.xe s := by
      rw [hsub]
      exact wpAny_operating (wpAny_getItem_heap (room_nk hu) kb dd e1 (wpAny_bind (wpAny_letTemporaryGo (wpAny_pure ⟨vv, H, I.tok _, e2, q2.same e3⟩))))
    first
      | exact wpAny_pure (wpAny_bind fin)
      | exact wpAny_bind (wpAny_pure (wpAny_bind fin))
      | exact wpAny_bind fin
end
end BV
set_option Elab.async false
set_option linter.all false
set_option maxRecDepth 100000
set_option maxHeartbeats 1000000
namespace BV
open PySem L2 PySem.Spec PyProof.Rows
open Evl (Ex)

section
variable {T : Tb} {W : WX} {X : Cx} {O A : AP} {H0 H H' : Hp} {σ : L2.St} {ρ : Rho} {pins : List (Addr × Obj)} {s : Shared}
/-! ### d[k] = v -/
def ePut (es : List En) (k : NestedKey) (kv v : V) : List En := if (es.any fun e => decide (e.1 = k)) = true then es.map (fun e => if e.1 = k then (e.1, e.2.1, v) else e) else es ++ [(k, kv, v)]
theorem any_atKey : ∀ {es : List En} {xs : List En2} (k : NestedKey), Paired EnR es xs → (es.any fun e => decide (e.1 = k)) = (atKey xs k).isSome
  | _, _, _, .nil => rfl
  | _, _, k, .cons (a := e) (b := x) (l₂ := xs) p q => by
    rw [List.any_cons, any_atKey k q]
    by_cases h : x.1 = k
    · have : e.1 = k := p.1.trans h
      simp [atKey, h, this]
    · have : ¬ e.1 = k := fun z => h (p.1.symm.trans z)
      simp [atKey, h, this]
theorem Paired.mapEn {F : En → En} {G : En2 → En2} (h : ∀ e x, EnR e x → EnR (F e) (G x)) : ∀ {es : List En} {xs : List En2}, Paired EnR es xs → Paired EnR (es.map F) (xs.map G)
  | _, _, .nil => .nil
  | _, _, .cons p q => .cons (h _ _ p) (Paired.mapEn h q)
theorem ePut_rel {es : List En} {xs : List En2} {k : NestedKey} {b : Addr} {v : V} {u : Value} (p : Paired EnR es xs) (r : RelV v u) : Paired EnR (ePut es k (.ref b) v) (storedH xs k b u) := by
  unfold ePut storedH
  rw [any_atKey k p]
  split
  · refine Paired.mapEn (fun e x q => ?_) p
    unfold putAt
    by_cases h : x.1 = k
    · rw [if_pos (q.1.trans h), if_pos h]; exact ⟨q.1, q.2.1, r⟩
    · rw [if_neg (fun z => h (q.1.symm.trans z)), if_neg h]; exact q
  · exact Paired.snoc p ⟨rfl, rfl, r⟩
theorem ents_hash {prog : Program} {w : World} : ∀ {es : List En} {xs : List En2}, Paired EnR es xs → Paired (fun (e : En) (x : DictEntry) => x.hash = NestedKey.hash w e.1 ∧ RelV e.2.1 x.key ∧ RelV e.2.2 x.val) es (xs.map (entryOfKey (nestedKind prog w)))
  | _, _, .nil => .nil
  | _, _, .cons p q => .cons ⟨by rw [p.1]; rfl, by rw [p.2.1]; rfl, p.2.2⟩ (ents_hash q)
theorem dictO_ok {P : Program} {w : World} {H : Hp} {h : Heap} {a : Addr} {es : List En} {xs : List En2} (hs : (a == sysModules) = false) (d : h.DictOfH (nestedKind P w) a xs) (p : Paired EnR es xs) : ∃ ep, ObjOk P w H h a (DictO w a (es, ep)) := by
  obtain ⟨o, ea, ep, h1, h2, h3, h4, _⟩ := d
  refine ⟨ep, ⟨hs, o, ea, h1, h2, h3, ?_⟩, ⟨o, h1⟩, fun g1 g2 q st => ?_⟩
  · rw [h4]; exact ents_hash p
  · obtain ⟨q0, o', ea', q1, q2, q3, q4⟩ := q
    exact ⟨q0, o', ea', st _ q1, q2, q3, q4⟩
def rSetK (T : Tb) : TSet := fun o i v H Q => ∃ A a es ks kd k, o = .ref a ∧ H a = some (DictO T.w a es) ∧ KOk ks (es.1.map fun e => e.1) ∧ allTK ks = true ∧ Dens T A H ks (es.1.map fun e => e.2.1) ∧ tkD kd = some k ∧ Den T A H kd i ∧ ∀ ep, Q (upd H a (DictO T.w a (ePut es.1 k i v, ep)))
theorem set_K (hK : X.K = T.K) (hw : X.w = T.w) (hu : X.A.units + 64 < cLine) : PSet X (rSetK T) := by
  intro pins s σ H o i v ov iv u Q I ro ri rv h
  obtain ⟨A, a, es, ks, kd, k, rfl, e1, e2, e3, e4, e5, e6, q⟩ := h
  cases (show ov = Value.ref a from ro)
  obtain ⟨q1, q2⟩ := tkD_some e5
  obtain ⟨b, rfl, rfl, kb⟩ := key_is I hK e6 ri q1 q2
  obtain ⟨hs, xs, d1, d2, d3⟩ := dict_of I hK hw e1 e2 (allTK_of e2.eq e3) e4
  refine wpAny_setItem_heap (hsz := d3) (room_nk hu) kb d1 fun h' dd hsb => ?_
  have p := ePut_rel (k := k) (b := b) d2 rv
  obtain ⟨ep, ok⟩ := dictO_ok (H := upd H a (DictO T.w a (ePut es.1 k (.ref b) v, 0))) hs dd p
  have hobj : ∃ o, h'.get? a = some o := by obtain ⟨o, _, _, z, _⟩ := dd; exact ⟨o, z⟩
  have := d_write (t' := s.toks + (nestedKind X.prog X.w).draws k) (ob := DictO T.w a (ePut es.1 k (.ref b) v, ep)) I (by rw [e1]; exact True.intro) hsb hobj (by rw [← hw]; exact ok)
  exact ⟨_, this, q ep⟩
/-! the data -/
def dPut (ks ds : List D) (k : NestedKey) (kd v : D) : D := if (kAt k ks ds).isSome = true then .dct ks (kPut k v ks ds) else .dct (ks ++ [kd]) (ds ++ [v])
theorem kAt_any : ∀ {es : List En} {ks ds : List D} {k : NestedKey}, ks.map D.toK = (es.map fun e => e.1).map some → ds.length = es.length → (kAt k ks ds).isSome = es.any fun e => decide (e.1 = k)
  | [], ks, ds, k, h, hl => by
    have : ks = [] := by simpa using h
    subst this; simp [kAt]
  | e :: es, [], _, _, h, _ => by simp at h
  | e :: es, kd :: ks, [], _, _, hl => by simp at hl
  | e :: es, kd :: ks, d :: ds, k, h, hl => by
    simp only [List.map_cons, List.cons.injEq] at h
    rw [kAt, List.any_cons, ← kAt_any (k := k) h.2 (by simpa using hl), h.1]
    by_cases z : e.1 = k
    · simp [z]
    · simp [z]
theorem put_dens : ∀ {es : List En} {ks ds : List D} {k : NestedKey} {v : D} {vv : V}, ks.map D.toK = (es.map fun e => e.1).map some → (es.map fun e => e.1).Nodup → Dens T A H ds (es.map fun e => e.2.2) → Den T A H v vv →
    Dens T A H (kPut k v ks ds) ((es.map fun e => if e.1 = k then (e.1, e.2.1, vv) else e).map fun e => e.2.2)
  | [], ks, ds, k, v, vv, h, _, hd, hv => by
    have : ks = [] := by simpa using h
    subst this; simpa [kPut] using hd
  | e :: es, [], _, _, _, _, h, _, _, _ => by simp at h
  | e :: es, kd :: ks, [], _, _, _, _, _, hd, _ => by have := hd.length; simp at this
  | e :: es, kd :: ks, d :: ds, k, v, vv, h, hn, hd, hv => by
    simp only [List.map_cons, List.cons.injEq] at h
    rw [List.map_cons, List.nodup_cons] at hn
    obtain ⟨d1, d2⟩ := hd.uncons
    rw [kPut, h.1, List.map_cons, List.map_cons]
    by_cases z : e.1 = k
    · rw [if_pos (by rw [z]), if_pos z]
      have same : (es.map fun e => if e.1 = k then (e.1, e.2.1, vv) else e) = es := by
        conv => rhs; rw [← List.map_id es]
        refine List.map_congr_left fun x hx => ?_
        have : ¬ x.1 = k := fun q => hn.1 (by rw [z, ← q]; exact List.mem_map.mpr ⟨x, hx, rfl⟩)
        rw [if_neg this]; rfl
      rw [same]
      exact .cons hv d2
    · rw [if_neg (by simpa using z), if_neg z]
      exact .cons d1 (put_dens h.2 hn.2 d2 hv)
theorem ePut_fst {es : List En} {k : NestedKey} {kv v : V} : (ePut es k kv v).map (fun e => e.1) = if (es.any fun e => decide (e.1 = k)) = true then es.map (fun e => e.1) else es.map (fun e => e.1) ++ [k] := by
  unfold ePut
  split
  · rw [List.map_map]; exact List.map_congr_left fun e _ => by simp only [Function.comp_def]; split <;> rfl
  · simp
theorem ePut_key {es : List En} {k : NestedKey} {kv v : V} : (ePut es k kv v).map (fun e => e.2.1) = if (es.any fun e => decide (e.1 = k)) = true then es.map (fun e => e.2.1) else es.map (fun e => e.2.1) ++ [kv] := by
  unfold ePut
  split
  · rw [List.map_map]; exact List.map_congr_left fun e _ => by simp only [Function.comp_def]; split <;> rfl
  · simp
/-- the dict behind a store -/
theorem own_put {a : Addr} {es : Es} {ep : Nat} {ks ds : List D} {k : NestedKey} {kd v : D} {kv vv : V} (e1 : H a = some (DictO T.w a es)) (e2 : KOk ks (es.1.map fun e => e.1)) (e3 : allTK ks = true) (e4 : Dens T A H ks (es.1.map fun e => e.2.1)) (e5 : Dens T A H ds (es.1.map fun e => e.2.2))
    (hk : tkD kd = some k) (hkd : Den T A H kd kv) (hv : Den T A H v vv) (hl : ks.length < sizeLine) (ha : A a) : OwnDen T A (upd H a (DictO T.w a (ePut es.1 k kv vv, ep))) (dPut ks ds k kd v) a := by
  have hm : Mb (H a) := by rw [e1]; trivial
  have ds_len : ds.length = es.1.length := by have := e5.length; simpa using this.symm
  have an := kAt_any (k := k) e2.eq ds_len
  obtain ⟨q1, q2⟩ := tkD_some hk
  unfold dPut
  rw [an]
  by_cases h : (es.1.any fun e => decide (e.1 = k)) = true
  · rw [if_pos h]
    refine ⟨_, upd_same, ?_, ?_, ?_⟩
    · rw [ePut_fst, if_pos h]; exact e2
    · rw [ePut_key, if_pos h]; exact e4.upd ha hm
    · unfold ePut; rw [if_pos h]; exact (put_dens e2.eq e2.nd e5 hv).upd ha hm
  · rw [if_neg h]
    refine ⟨_, upd_same, ?_, ?_, ?_⟩
    · rw [ePut_fst, if_neg h]
      refine ⟨by simp [e2.eq, q1], ?_, .inl fun n hn => ?_, by simp; omega⟩
      · refine List.nodup_append.mpr ⟨e2.nd, by simp, fun x hx y hy z => h ?_⟩
        simp only [List.mem_singleton] at hy
        subst hy z
        obtain ⟨e, he, rfl⟩ := List.mem_map.mp hx
        exact List.any_eq_true.mpr ⟨e, he, by simp⟩
      · rcases List.mem_append.mp hn with hn | hn
        · exact allTK_of e2.eq e3 n hn
        · simp only [List.mem_singleton] at hn; subst hn; exact q2
    · rw [ePut_key, if_neg h]; exact (e4.append (.cons hkd .nil)).upd ha hm
    · unfold ePut; rw [if_neg h, List.map_append]; exact (e5.append (.cons hv .nil)).upd ha hm
end
end BV
set_option Elab.async false
set_option linter.all false
set_option maxRecDepth 100000
set_option maxHeartbeats 1000000
namespace BV
open PySem L2 PySem.Spec PyProof.Rows
open Evl (Ex)

section
variable {T : Tb} {N : List Str} {sc : Scope} {W : WX} {k : Nat} {X : Cx} {O A : AP} {H0 H H' : Hp} {σ : L2.St} {ρ : Rho} {De : Ends} {pos p p2 apos : Pos} {F G : Rho → Out} {f g : Rho → R D} {e a b : Expr} {x : Str} {i : Nat} {fb : Bool}
theorem Rel.updK {a : Addr} {ks ds : List D} {es : Es} {d1 : D} (r : Rel T H0 O σ H ρ) (hi : ρ[i]? = some (some (true, .dct ks ds))) (ha : σ[i]? = some (some (.ref a))) (he : H a = some (DictO T.w a es)) {es' : Es} (hd : OwnDen T (Av O σ ρ) (upd H a (DictO T.w a es')) d1 a) :
    Rel T H0 O σ (upd H a (DictO T.w a es')) (ρ.set i (some (true, d1))) := r.updOwn hi ha (by rw [he]; trivial) hd
def setKF (i : Nat) (fi f : Rho → R D) : Rho → Out := fun ρ => ofR (f ρ) ρ fun d => match ρ[i]? with
  | some (some (true, .dct ks ds)) => ofR (fi ρ) ρ fun kd => (match tkD kd with
    | some k => if allTK ks = true ∧ ks.length < sizeLine then .nx (ρ.set i (some (true, dPut ks ds k kd d))) else .stuck
    | none => .stuck)
  | _ => .stuck
theorem bs_setK {ie : Expr} {fi : Rho → R D} (S : Sok T N sc W k X) (hi : N[i]? = some x) (hv : Vis sc x) (hd : (x == ("__debug__" : Str)) = false) (hcd : (x == ("__classdict__" : Str)) = false) (he : PE X e (tB T W f)) (hie : PE X ie (tB T W fi))
    (ha : ∀ v, assign (.Subscript (.Name x p) ie p2) X.env v = (do
      let ov ← holding [v] (eval (.Name x p) X.env)
      let iv ← holding [v, ov] (eval ie X.env)
      standAt p2
      holding [v, ov, iv] (setItem ov iv v)
      release [v, ov, iv] []))
    (hs : swapsWithSole [.Subscript (.Name x p) ie p2] e pos.line X.env = pure false) (hw : swappedStores [.Subscript (.Name x p) ie p2] e X.env = pure none) :
    PS X (.Assign [.Subscript (.Name x p) ie p2] e pos) (tS T W (setKF i fi f)) := by
  refine ps_imp (ps_asg he (pg_sub (pe_var (i := i) (by rw [S.C.hN]; exact hi) (by rw [S.C.hsc]; exact hv) hd hcd) hie (set_K S.C.hK S.C.hw S.C.u64) ha) hs hw rfl) fun De σ H ⟨H0, O, ρ, r, p⟩ => ?_
  unfold setKF at p
  refine tB.stmt r p fun d v H1 x1 r1 d1 p1 => ?_
  split at p1
  · rename_i ks ds hi2
    obtain ⟨a, e1, e2, es, e3, e6, e4, e5⟩ := r1.own i _ hi2
    refine ⟨_, e1, tB.stmt r1 p1 fun kd w H2 x2 r2 d2 p2 => ?_⟩
    split at p2
    · rename_i kk hk
      split at p2
      · rename_i hc
        refine ⟨Av O σ ρ, a, es, ks, kd, kk, rfl, x2 _ _ e3, e6, hc.1, e4.ex x2, hk, d2, fun ep => p2 σ _ (r2.updK hi2 e1 (x2 _ _ e3) ?_)⟩
        exact own_put (x2 _ _ e3) e6 hc.1 (e4.ex x2) (e5.ex x2) hk d2 (d1.ex x2) hc.2 (.inr ⟨i, _, hi2, e1⟩)
      · exact p2.elim
    · exact p2.elim
  · exact p1.elim
/-! ### d[k] -/
theorem be_ixK {k : Nat} (C : Cok T N sc W k fb X) (ha : PE X a (tP T W f)) (hb : PE X b (tP T W g)) (hs : PlainIx b) : PE X (.Subscript a b pos) (tB T W (bin2 opIxK f g)) :=
  pe_imp (pe_ix (ix_K C.hK C.hw C.u64) ha hb hs) fun _ _ _ h => tOp_of ne_ixK h
/-! ### {} -/
theorem dictO_empty {P : Program} {w : World} {H : Hp} (h : Heap) (hb : sysModules < h.objs.size) : ObjOk P w H (h.push { cls := .type "dict", data := .dict #[] }) h.objs.size (DictO w h.objs.size ([], 0)) := by
  refine ⟨⟨beq_eq_false_iff_ne.mpr (Ne.symm (Nat.ne_of_lt hb)), _, #[], Heap.get?_push_size _ rfl, ⟨rfl, rfl, rfl⟩, rfl, .nil⟩, ⟨_, Heap.get?_push_size _ rfl⟩, fun g1 g2 q st => ?_⟩
  obtain ⟨q0, o', ea', q1, q2, q3, q4⟩ := q
  exact ⟨q0, o', ea', st _ q1, q2, q3, q4⟩
def tDNewD (w : World) : TE := fun _ H Q => ∀ p, H p = none → Q (.ref p) (upd H p (DictO w p ([], 0)))
theorem pe_dnewD : PE X (.Dict [] [] pos) (tDNewD X.w) := ⟨fun pins s σ H Q I h =>
  wpAny_Dict_empty ⟨.ref s.heap.objs.size, _, I.laid (a := s.heap.objs.size) (o := DictO X.w s.heap.objs.size ([], 0)) (t' := s.toks) (fun _ _ q => Heap.get?_push_of_some _ q) (Nat.le_refl _) (dictO_empty s.heap I.big), rfl, h _ (I.hok.fresh (Nat.le_refl _))⟩⟩
theorem kok_nil : KOk [] [] := ⟨rfl, List.nodup_nil, .inl fun _ h => by simp at h, Nat.zero_le _⟩
theorem be_dnew {k : Nat} (C : Cok T N sc W k fb X) : PE X (.Dict [] [] pos) (tF T W (constF (.dct [] []))) := pe_imp pe_dnewD fun σ H Q ⟨H0, O, ρ, r, p⟩ => by
  intro q hq
  rw [C.hw]
  exact p _ _ (Ex.new hq) ⟨q, rfl, hq, ([], 0), upd_same, kok_nil, .nil, .nil⟩
end
end BV
set_option Elab.async false
set_option linter.all false
set_option maxRecDepth 100000
set_option maxHeartbeats 1000000
namespace BV
open PySem L2 PySem.Spec PyProof.Rows
open Evl (Ex)

theorem Paired.getE {α β : Type} {F : α → β → Prop} : ∀ {l : List α} {m : List β} {i : Nat} {x : α}, Paired F l m → l[i]? = some x → ∃ y, m[i]? = some y ∧ F x y
  | _, _, _, _, .nil, e => by simp at e
  | _, _, 0, _, .cons r _, e => by simp at e; subst e; exact ⟨_, rfl, r⟩
  | _, _, i + 1, _, .cons _ t, e => by
    obtain ⟨y, h1, h2⟩ := Paired.getE (i := i) t (by simpa using e)
    exact ⟨y, by simpa using h1, h2⟩
/-! ### for k in d -/
def ItK (w : World) (a : Addr) (es : Es) : It where
  go := fun i H => H a = some (DictO w a es) ∧ i < es.1.length
  yld := fun i H x H2 => H2 = H ∧ ∃ e, es.1[i]? = some e ∧ x = e.2.1
  stop := fun i H => H a = some (DictO w a es) ∧ es.1.length ≤ i
theorem dictO_at {X : Cx} {pins : List (Addr × Obj)} {σ : L2.St} {H : Hp} {s : Shared} {w : World} {a : Addr} {es : Es} (I : Inv X pins σ H s) (e : H a = some (DictO w a es)) :
    (a == sysModules) = false ∧ ∃ o ea, s.heap.get? a = some o ∧ o.ExactDict ∧ o.data = .dict ea es.2 ∧ ea.size = es.1.length ∧ ∀ (i : Nat) (e : En), es.1[i]? = some e → ∃ en, ea[i]? = some en ∧ RelV e.2.1 en.key ∧ RelV e.2.2 en.val := by
  obtain ⟨⟨h0, o, ea, h1, h2, h3, h4⟩, _⟩ := (show ObjOk X.prog X.w H s.heap a (DictO w a es) from I.hok a _ e)
  refine ⟨h0, o, ea, h1, h2, h3, ?_, fun i e he => ?_⟩
  · have := Paired.length h4
    simpa using this.symm
  · obtain ⟨en, q1, q2⟩ := Paired.getE h4 he
    exact ⟨en, by simpa using q1, q2.2⟩
theorem turn_keysK {P : Program} {w : World} {K : PySem.W.Frag} {tg : Expr} {d : Addr} {es : Es} (it : Addr) : Turn P w K tg (ItK w d es) [it] it (fun i h => h.IsKeyIter it d i es.1.length es.2) where
  mem := by simp
  obj := fun i h st b hb => by
    have e : b = it := by simpa using hb
    subst e
    obtain ⟨oi, e, c, dd⟩ := st
    exact ⟨oi, e, fun v z => by rw [dd] at z; cases z⟩
  keep := fun i h h' st k => st.at fun oi e => k it (by simp) oi e
  item := by
    intro X hP hw hK hc i pins s σ H E I hf st hg
    subst hP hw hK
    obtain ⟨hd, hi⟩ := hg
    obtain ⟨f0, f1, f2, f3, f4, f5⟩ := hf it (by simp)
    obtain ⟨hs, o, ea, hgd, hx, hdt, hsz, ent⟩ := dictO_at I hd
    obtain ⟨en, hen, hk, _⟩ := ent i es.1[i] (List.getElem?_eq_getElem hi)
    refine next_key_item st hgd hdt hsz hen fun h' st' sb => ?_
    have I1 : Inv X pins σ H { s with heap := h' } := I.turned (t' := s.toks) (fun b ob hb e => (sb.2 b hb).trans e) f0 f1 f3 f4 f5
    obtain ⟨oi, e, c, dd⟩ := id st'
    exact ⟨en.key, rfl, go_of (s := { s with heap := h' }) e c dd (by decide) ⟨_, H, I1, hk, ⟨rfl, _, List.getElem?_eq_getElem hi, rfl⟩, st', fun b hb => (hf b hb).1⟩⟩
  done := by
    intro X hP hw hK hc i pins s σ H E I hf st hg
    subst hP hw hK
    obtain ⟨hd, hi⟩ := hg
    obtain ⟨f0, f1, f2, f3, f4, f5⟩ := hf it (by simp)
    obtain ⟨hs, o, ea, hgd, hx, hdt, hsz, ent⟩ := dictO_at I hd
    exact next_key_end (I.ok.hd hc) st hgd hdt hsz hi fun h' eb => ⟨rfl, I.turned (t' := s.toks) (fun b ob hb e => eb b ob hb e) f0 f1 f3 f4 f5⟩
  self := fun A i s Q E st h => by
    refine wpAny_pyIter_slot st.typeIs F.slot_dict_keyiterator_iter (wpAny_call_entry F.slot_dict_keyiterator_iter st.typeIs F.entry_dict_keyiterator_iter ?_ (F.args_dict_keyiterator_iter_1 _))
    show wpAny _ _ (ret (.ref it)) _ _ s
    exact wpAny_pure ⟨_, rfl, "dict_keyiterator", _, st.typeIs, F.slot_dict_keyiterator_next.lookup, h⟩
section
variable {T : Tb} {N : List Str} {sc : Scope} {W : WX} {k : Nat} {X : Cx} {O A : AP} {H0 H H' : Hp} {σ : L2.St} {ρ : Rho} {pos p p2 apos : Pos} {f g : Rho → R D} {e a b tg : Expr} {x : Str} {i : Nat} {fb : Bool}
def keysD : D → R (List D)
  | .dct ks _ => .ok ks
  | _ => .stuck
theorem walks_k {Hb : Hp} {a : Addr} {es : Es} {ks : List D} (he : Hb a = some (DictO T.w a es)) (hd : Dens T O Hb ks (es.1.map fun e => e.2.1)) : Walks T O Hb (ItK T.w a es) ks := fun H e => by
  have hl : es.1.length = ks.length := by have := hd.length; simpa using this
  refine ⟨⟨e _ _ he, by rw [hl]; exact Nat.le_refl _⟩, fun i d ed => ?_⟩
  obtain ⟨x, ex, dx⟩ := hd.get ed
  have hi : i < es.1.length := by rw [hl]; exact (List.getElem?_eq_some_iff.mp ed).1
  refine ⟨⟨e _ _ he, hi⟩, fun v H2 ⟨y1, en, y2, y3⟩ => ?_⟩
  subst y1 y3
  rw [List.getElem?_map, y2] at ex
  simp only [Option.map_some, Option.some.injEq] at ex
  subst ex
  exact ⟨Ex.refl _, dx.gr e⟩
theorem bi_keys (C : Cok T N sc W k fb X) (he : PE X e (tB T W f)) : PI X tg e (tI T W fun ρ => (f ρ).bind keysD) := by
  refine ⟨fun pins s σ H R' I h => ?_⟩
  obtain ⟨H0, O, ρ, r, p⟩ := h
  have q : tB T W f σ H fun v H1 => ∃ ks vs, Den T (Av O σ ρ) H1 (.dct ks vs) v ∧ Ex H H1 ∧ ∀ J, Walks T O (Fz σ ρ H1) J ks → R' J H1 :=
    tB.bindW r p fun d v H1 e1 r1 d1 p1 => by
      cases d with
      | dct ks vs => exact ⟨ks, vs, d1, e1, fun J w => p1 J H1 (Ex.refl H1) w⟩
      | _ => exact p1.elim
  refine thn (he.run pins s σ H _ I q) fun u s1 ⟨v, H1, I1, r1, ks, vs, hd, e1, q1⟩ => ?_
  have hf := hd.fz (r.mono e1)
  simp only [Den] at hf
  obtain ⟨a, es, rfl, h1, h2, h3, h4, h5⟩ := hf
  obtain rfl : u = Value.ref a := r1
  obtain ⟨hs, o, ea, hgd, hx, hdt, hsz, ent⟩ := dictO_at I1 (Fz.ex _ _ h1)
  have w := q1 _ (walks_k h1 h4)
  rw [← C.hw] at w
  refine iter_keys hs hgd hx hdt (pi_one (tk := s1.toks) I1 _ (turn_keysK _) ⟨_, Heap.get?_push_size _ rfl, rfl, ?_⟩ w)
  rw [hsz] <;> rfl
end
end BV
set_option Elab.async false
set_option linter.all false
set_option maxRecDepth 100000
set_option maxHeartbeats 1000000
namespace BV
open PySem L2 PySem.Spec PyProof.Rows
open Evl (Ex)

section
variable {T : Tb} {N : List Str} {sc : Scope} {W : WX} {k : Nat} {X : Cx} {O A : AP} {H0 H H' : Hp} {σ : L2.St} {ρ : Rho} {pos p p2 apos : Pos} {f g : Rho → R D} {fl : Rho → R (List D)} {e a b tg : Expr} {x : Str} {i : Nat} {fb : Bool}
/-! ### len(d) -/
def biLenK : List D → R D
  | [.dct ks _] => .ok (.int ks.length)
  | _ => .stuck
theorem ne_lenK : NoErr1 biLenK := fun ds => by unfold biLenK; split <;> rfl
theorem c_lenK : CallR X (.builtin "len") (rC T biLenK) := by
  intro pins s σ H vs us Q I rv h
  obtain ⟨O, A, ds, dom, hd, q⟩ := h
  unfold biLenK at q
  split at q
  · rename_i ks ws
    obtain ⟨v, rfl, h1⟩ := hd.one
    obtain ⟨a, es, rfl, e1, e2, e3, e4, e5⟩ := h1
    cases rv with
    | cons r1 r2 =>
      cases r2
      cases (show _ = Value.ref a from r1)
      obtain ⟨hs, o, ea, hgd, hx, hdt, hsz, ent⟩ := dictO_at I e1
      have raw : s.heap.DictRaw a ea es.2 := ⟨o, hgd, hx, hdt⟩
      have hl : ea.size = ks.length := by rw [hsz]; have := e4.length; simpa using this
      have hle := e3.le
      refine PyProof.Rows.call_len_slot (n := ea.size) raw.typeIs F.slot_dict_len (fun Q' hq => call_len_raw hs raw hq) (by omega) (by rw [sizeLine_eq] at hle; omega) ?_
      exact ⟨.int ks.length, H, I.tok _, ⟨_, by rw [hl]⟩, q.int⟩
  · exact q.elim
theorem E_lenK (C : Cok T N sc W k fb X) (hm : T.mg "len" = none) (ha : PA X [e] (tPs T W fl)) (hg : sc.names.lookup ("len" : Str) = some .globalImplicit := by rfl) (h1 : isStar e = false := by rfl) : PE X (.Call (.Name "len" p) [e] [] pos) (tB T W (appL biLenK fl)) :=
  be_callB ne_lenK c_lenK (C.gl hg) (C.mgn hm) (by decide +kernel) ha (by decide) (by decide) (star_cons h1) rfl
end
end BV
set_option Elab.async false
set_option linter.all false
set_option maxRecDepth 100000
set_option maxHeartbeats 1000000
namespace BV
open PySem L2 PySem.Spec PyProof.Rows
open Evl (Ex)

section
variable {T : Tb} {N : List Str} {sc : Scope} {W : WX} {k : Nat} {X : Cx} {O A : AP} {H0 H H' : Hp} {σ : L2.St} {ρ : Rho} {pins : List (Addr × Obj)} {s : Shared} {pos p p2 apos : Pos} {f g : Rho → R D} {fl : Rho → R (List D)} {e a b tg : Expr} {x : Str} {i : Nat} {fb : Bool}
/-! ### dict([(k, v), ..]) -/
structure DDat (T : Tb) (A : AP) (H : Hp) (ks ds : List D) (es : List En) : Prop where
  k : KOk ks (es.map fun e => e.1)
  t : allTK ks = true
  dk : Dens T A H ks (es.map fun e => e.2.1)
  dv : Dens T A H ds (es.map fun e => e.2.2)
theorem DDat.put {ks ds : List D} {es : List En} {k : NestedKey} {kd v : D} {kv vv : V} (h : DDat T A H ks ds es) (hk : tkD kd = some k) (hkd : Den T A H kd kv) (hv : Den T A H v vv) (hl : ks.length < sizeLine) :
    ∃ ks' ds', dPut ks ds k kd v = .dct ks' ds' ∧ DDat T A H ks' ds' (ePut es k kv vv) ∧ ks'.length ≤ ks.length + 1 := by
  have ds_len : ds.length = es.length := by have := h.dv.length; simpa using this.symm
  have an := kAt_any (k := k) h.k.eq ds_len
  obtain ⟨q1, q2⟩ := tkD_some hk
  unfold dPut
  rw [an]
  by_cases c : (es.any fun e => decide (e.1 = k)) = true
  · rw [if_pos c]
    refine ⟨_, _, rfl, ⟨?_, h.t, ?_, ?_⟩, by omega⟩
    · rw [ePut_fst, if_pos c]; exact h.k
    · rw [ePut_key, if_pos c]; exact h.dk
    · unfold ePut; rw [if_pos c]; exact put_dens h.k.eq h.k.nd h.dv hv
  · rw [if_neg c]
    refine ⟨_, _, rfl, ⟨?_, ?_, ?_, ?_⟩, by simp⟩
    · rw [ePut_fst, if_neg c]
      refine ⟨by simp [h.k.eq, q1], ?_, .inl fun n hn => ?_, by simp; omega⟩
      · refine List.nodup_append.mpr ⟨h.k.nd, by simp, fun x hx y hy z => c ?_⟩
        simp only [List.mem_singleton] at hy
        subst hy z
        obtain ⟨e, he, rfl⟩ := List.mem_map.mp hx
        exact List.any_eq_true.mpr ⟨e, he, by simp⟩
      · rcases List.mem_append.mp hn with hn | hn
        · exact allTK_of h.k.eq h.t n hn
        · simp only [List.mem_singleton] at hn; subst hn; exact q2
    · have := h.t
      simp only [allTK, List.all_append, List.all_cons, List.all_nil, Bool.and_true, Bool.and_eq_true] at this ⊢
      exact ⟨this, by rw [hk]; rfl⟩
    · rw [ePut_key, if_neg c]; exact h.dk.append (.cons hkd .nil)
    · unfold ePut; rw [if_neg c, List.map_append]; exact h.dv.append (.cons hv .nil)
def prD : D → Option (NestedKey × D × D)
  | .tup [kd, v] => (tkD kd).map fun k => (k, kd, v)
  | _ => none
def dPuts : List D → List D → List D → Option D
  | [], ks, ds => some (.dct ks ds)
  | q :: ps, ks, ds => match prD q with
    | some (k, kd, v) => (match dPut ks ds k kd v with
      | .dct ks' ds' => dPuts ps ks' ds'
      | _ => none)
    | none => none
/-- what a pair's value is -/
def PrV (T : Tb) (A : AP) (H : Hp) (q : V) (p : En) : Prop := ∃ t kd, q = .ref t ∧ SqT T.K H t [p.2.1, p.2.2] ∧ Den T A H kd p.2.1 ∧ tkD kd = some p.1
def ePuts (es kps : List En) : List En := kps.foldl (fun es p => ePut es p.1 p.2.1 p.2.2) es
theorem puts_of : ∀ {ps : List D} {vs : List V} {ks ds : List D} {es : List En} {d : D}, Dens T A H ps vs → DDat T A H ks ds es → ks.length + ps.length ≤ sizeLine → dPuts ps ks ds = some d →
    ∃ kps ks' ds', d = .dct ks' ds' ∧ Paired (PrV T A H) vs kps ∧ DDat T A H ks' ds' (ePuts es kps)
  | [], vs, ks, ds, es, d, h, dd, _, e => by
    simp only [Dens] at h; subst h
    simp only [dPuts, Option.some.injEq] at e
    exact ⟨[], ks, ds, e.symm, .nil, dd⟩
  | q :: ps, vs, ks, ds, es, d, h, dd, hl, e => by
    simp only [Dens] at h
    obtain ⟨v, r, rfl, h1, h2⟩ := h
    simp only [dPuts] at e
    cases q with
    | tup l =>
      match l, h1, e with
      | [kd, w], h1, e =>
        simp only [Den] at h1
        obtain ⟨t, us, rfl, hs, hd⟩ := h1
        simp only [Dens] at hd
        obtain ⟨kv, r1, rfl, hk, vv, r2, rfl, hw, rfl⟩ := hd
        cases ht : tkD kd with
        | none => simp [prD, ht] at e
        | some k =>
          simp only [prD, ht, Option.map_some] at e
          simp only [List.length_cons] at hl
          obtain ⟨ks', ds', q1, q2, q3⟩ := dd.put ht hk hw (by omega)
          rw [q1] at e
          obtain ⟨kps, ks2, ds2, z1, z2, z3⟩ := puts_of h2 q2 (by omega) e
          exact ⟨(k, kv, vv) :: kps, ks2, ds2, z1, .cons ⟨t, kd, rfl, hs, hk, ht⟩ z2, z3⟩
      | [], _, e => simp [prD] at e
      | [_], _, e => simp [prD] at e
      | _ :: _ :: _ :: _, _, e => simp [prD] at e
    | _ => simp [prD] at e
theorem ePuts_rel : ∀ {kps : List En} {ps : List En2} {es : List En} {xs : List En2}, Paired EnR kps ps → Paired EnR es xs → Paired EnR (ePuts es kps) (storedAllH xs ps)
  | _, _, _, _, .nil, h => h
  | _, _, es, xs, .cons (a := p) (b := y) q t, h => by
    have := ePut_rel (k := y.1) (b := y.2.1) h q.2.2
    have e : ePut es y.1 (.ref y.2.1) p.2.2 = ePut es p.1 p.2.1 p.2.2 := by rw [q.1, q.2.1]
    rw [e] at this
    have r := ePuts_rel t this
    exact r
/-- the pairs in the heap -/
theorem pairs_at (I : Inv X pins σ H s) (hK : X.K = T.K) : ∀ {vs : List V} {kps : List En} {us : List Value}, Paired (PrV T A H) vs kps → Vals vs us →
    ∃ (ps : List En2) (ts : List Addr), Paired EnR kps ps ∧ us = ts.map Value.ref ∧ ts.length = ps.length ∧ (∀ x ∈ ps, (nestedKind X.prog X.w).is s.heap x.1 x.2.1) ∧ ∀ (j : Nat) (x : En2), ps[j]? = some x → ∃ t, ts[j]? = some t ∧ IsTup s.heap t #[.ref x.2.1, x.2.2]
  | _, _, _, .nil, .nil => ⟨[], [], .nil, rfl, rfl, fun _ h => by simp at h, fun j x e => by simp at e⟩
  | _, _, _, .cons (b := p) ⟨t, kd, e1, e2, e3, e4⟩ q, .cons r1 r2 => by
    obtain ⟨ps, ts, h1, h2, h3, h4, h5⟩ := pairs_at I hK q r2
    subst e1
    cases (show _ = Value.ref t from r1)
    obtain ⟨its, rv, ht, _⟩ := I.tuple (by rw [hK]; exact e2)
    obtain ⟨u, y, ei, ru, ry⟩ := vals2 rv
    subst ei
    obtain ⟨q1, q2⟩ := tkD_some e4
    obtain ⟨b, z1, rfl, kb⟩ := key_is I hK e3 ru q1 q2
    refine ⟨(p.1, b, y) :: ps, t :: ts, .cons ⟨rfl, z1, ry⟩ h1, by rw [h2]; rfl, by simp [h3], fun x hx => ?_, fun j x e => ?_⟩
    · rcases List.mem_cons.mp hx with rfl | hx
      · exact kb
      · exact h4 x hx
    · cases j with
      | zero => simp at e; subst e; exact ⟨t, rfl, ht⟩
      | succ j => obtain ⟨t', a1, a2⟩ := h5 j x (by simpa using e); exact ⟨t', by simpa using a1, a2⟩
def biDictP : List D → R D
  | [.lst ps] => if ps.length ≤ sizeLine then (match dPuts ps [] [] with
    | some d => .ok d
    | none => .stuck) else .stuck
  | _ => .stuck
theorem ne_dictP : NoErr1 biDictP := fun ds => by
  unfold biDictP
  split
  · split
    · split <;> rfl
    · rfl
  · rfl
theorem c_dictPN (hK : X.K = T.K) (hw : X.w = T.w) (hu : X.A.units + 64 < cLine) (hc : X.calm = true) : CallR X (.type "dict") (rCN T biDictP) := by
  intro pins s σ H vs us Q I rv h
  obtain ⟨O, A, ds, dom, hd, q⟩ := h
  unfold biDictP at q
  split at q
  · rename_i l
    split at q
    · rename_i hz
      split at q
      · rename_i d hp
        obtain ⟨v, rfl, h1⟩ := hd.one
        obtain ⟨a, ws, rfl, e1, e2⟩ := h1.lst
        obtain ⟨u, eu, rx⟩ := vals1 rv
        subst eu
        cases rx
        obtain ⟨kps, ks, dv, rfl, z1, z2⟩ := puts_of (ks := []) (ds := []) (es := []) e2 ⟨kok_nil, rfl, .nil, .nil⟩ (by simpa using hz) hp
        obtain ⟨its, rv2, pl, hz2⟩ := I.list (.inl (.inl e1))
        obtain ⟨ps, ts, p1, p2, p3, p4, p5⟩ := pairs_at I hK z1 rv2
        subst p2
        obtain ⟨o, n, ho, hcl, hdn, hdat⟩ := pl
        have hlen : ps.length = l.length := by
          have a1 := Paired.length p1
          have a2 := Paired.length z1
          have a3 := e2.length
          omega
        refine call_dict_pairsH (knd := nestedKind X.prog X.w) (ps := ps) (PairArg.list a (ts.map Value.ref).toArray (fun j => ts.getD j 0) (ps.map fun x => (.ref x.2.1, x.2.2))) (I.ok.hd hc) (by show X.A.units + 1 + 1 + 8 < cLine; omega)
          ⟨⟨o, n, ho, hcl, hdn, hdat⟩, ⟨by simp [p3], fun j kk vv e => ?_⟩⟩ ⟨by simp, fun j kk vv e => ?_⟩ (fun h' hk x hx => nestedKind_stays.stays (fun b ob _ _ eb _ => hk b ob (Nat.ne_of_lt (Heap.lt_size eb)) (by simp) eb) (p4 x hx)) (by simp [hlen]; omega) fun h' tk hd' hk => ?_
        · rw [List.getElem?_map, Option.map_eq_some_iff] at e
          obtain ⟨x, ex, ee⟩ := e
          simp only [Prod.mk.injEq] at ee
          obtain ⟨t, a1, a2⟩ := p5 j x ex
          rw [← ee.1, ← ee.2]
          have : ts.getD j 0 = t := by rw [List.getD_eq_getElem?_getD, a1]; rfl
          simp only [this]
          exact ⟨by simp [a1], .inl a2⟩
        · have e' : (ps.map fun x => (Value.ref x.2.1, x.2.2))[j]? = some (kk, vv) := e
          rw [List.getElem?_map, Option.map_eq_some_iff] at e'
          obtain ⟨x, ex, ee⟩ := e'
          simp only [Prod.mk.injEq] at ee
          rw [← ee.1, ← ee.2]
          exact ⟨x.1, x.2.1, ex, rfl⟩
        · have hm : (s.heap.objs.size == sysModules) = false := beq_eq_false_iff_ne.mpr (Nat.ne_of_gt I.big)
          obtain ⟨ep, ok⟩ := dictO_ok (H := upd H s.heap.objs.size (.tup [])) (es := ePuts [] kps) hm hd' (ePuts_rel p1 .nil)
          have hp0 : H s.heap.objs.size = none := I.hok.fresh (Nat.le_refl _)
          refine ⟨.ref s.heap.objs.size, upd H s.heap.objs.size (DictO X.w s.heap.objs.size (ePuts [] kps, ep)), I.laid (t' := tk) (fun b ob eb => hk b ob (by simp) eb) (Nat.le_refl _) ok, rfl, q _ _ (Ex.new hp0) ⟨_, rfl, hp0, (ePuts [] kps, ep), by rw [hw]; exact upd_same, z2.k, ?_, ?_⟩⟩
          · exact z2.dk.mono (Ex.new hp0) fun a z hn => z.elim id fun z => by subst z; exact absurd hp0 hn
          · exact z2.dv.mono (Ex.new hp0) fun a z hn => z.elim id fun z => by subst z; exact absurd hp0 hn
      · exact q.elim
    · exact q.elim
  · exact q.elim
end
end BV
set_option Elab.async false
set_option linter.all false
set_option maxRecDepth 100000
set_option maxHeartbeats 1000000
namespace BV
open PySem L2 PySem.Spec PyProof.Rows
open Evl (Ex)

section
variable {T : Tb} {N : List Str} {sc : Scope} {W : WX} {k : Nat} {X : Cx} {O A : AP} {H0 H H' : Hp} {σ : L2.St} {ρ : Rho} {pins : List (Addr × Obj)} {s : Shared} {pos p p2 apos : Pos} {f g : Rho → R D} {fl : Rho → R (List D)} {e a b tg : Expr} {es : List Expr} {x : Str} {i : Nat} {fb : Bool}
theorem NewD.den {d : D} {v : V} (n : NewD T A H d v H') (hd : ∀ a, A a → H a ≠ none) : Den T A H' d v := by
  cases d with
  | lst ds => exact NewL.den n hd
  | dct ks ds => exact NewC.den n hd
  | _ => exact n
theorem okP.n {r : R D} {Q : VK} (h : okP T A H r Q) (hd : ∀ a, A a → H a ≠ none) : okN T A H r Q := by
  cases r with
  | ok d => exact fun v H' e n => h v H' e (n.den hd)
  | _ => exact h.elim
theorem c_dictP (hK : X.K = T.K) (hw : X.w = T.w) (hu : X.A.units + 64 < cLine) (hc : X.calm = true) : CallR X (.type "dict") (rC T biDictP) :=
  CallR.imp (c_dictPN hK hw hu hc) fun vs H Q ⟨O, A, ds, dom, hd, q⟩ => ⟨O, A, ds, dom, hd, q.n dom⟩
theorem E_dictP (C : Cok T N sc W k fb X) (hm : T.mg "dict" = none) (ha : PA X [e] (tPs T W fl)) (hg : sc.names.lookup ("dict" : Str) = some .globalImplicit := by rfl) (h1 : isStar e = false := by rfl) : PE X (.Call (.Name "dict" p) [e] [] pos) (tB T W (appL biDictP fl)) :=
  be_callTy ne_dictP (c_dictP C.hK C.hw C.u64 C.calm) (C.gl hg) (C.mgn hm) (by decide +kernel) ha (by decide) (by decide) (star_cons h1) rfl
theorem N_dictP (C : Cok T N sc W k fb X) (hm : T.mg "dict" = none) (ha : PA X [e] (tPs T W fl)) (hg : sc.names.lookup ("dict" : Str) = some .globalImplicit := by rfl) (h1 : isStar e = false := by rfl) : PE X (.Call (.Name "dict" p) [e] [] pos) (tF T W (appL biDictP fl)) :=
  pe_imp (pe_callTy (c_dictPN C.hK C.hw C.u64 C.calm) (C.gl hg) (C.mgn hm) (by decide +kernel) ha (by decide) (by decide) (star_cons h1) rfl) fun σ H Q ⟨H0, O, ρ, r, p⟩ =>
    tPs.bindN r p fun ds vs H1 _ e1 r1 d1 p1 => ⟨O, Av O σ ρ, ds, r1.avdom, d1, postN_ok (ne_dictP ds) p1⟩
theorem N_dnew (C : Cok T N sc W k fb X) : PE X (.Dict [] [] pos) (tF T W (constF (.dct [] []))) := be_dnew C
theorem E_dnew (C : Cok T N sc W k fb X) : PE X (.Dict [] [] pos) (tB T W (constF (.dct [] []))) := pe_imp (be_dnew C) fun σ H Q ⟨H0, O, ρ, r, p⟩ =>
  ⟨H0, O, ρ, r, fun v H' e n => p v H' e (NewD.den n r.avdom)⟩
theorem E_ixK (C : Cok T N sc W k fb X) (ha : PE X a (tP T W f)) (hb : PE X b (tP T W g)) (hs : PlainIx b := by intro _ _; rfl) : PE X (.Subscript a b pos) (tB T W (bin2 opIxK f g)) := be_ixK C ha hb hs
def itKeys (f : Rho → R D) : Rho → R (List D) := fun ρ => (f ρ).bind keysD
theorem I_keys (C : Cok T N sc W k fb X) (he : PE X e (tB T W f)) : PI X tg e (tI T W (itKeys f)) := bi_keys C he
end
end BV
set_option Elab.async false
set_option linter.all false
set_option maxRecDepth 100000
set_option maxHeartbeats 1000000
namespace BV
open PySem L2 PySem.Spec PyProof.Rows
open Evl (Ex)

section
variable {T : Tb} {N : List Str} {sc : Scope} {W : WX} {k : Nat} {X : Cx} {O A : AP} {H0 H H' : Hp} {σ : L2.St} {ρ : Rho} {De : Ends} {pos p p2 px apos : Pos} {f g : Rho → R D} {e a b tg : Expr} {x y : Str} {i j : Nat} {fb : Bool}
theorem av_same {d0 d1 : D} (hi : ρ[j]? = some (some (true, d0))) : ∀ b, Av O σ (ρ.set j (some (true, d1))) b → Av O σ ρ b := fun b h => h.imp id fun ⟨l, g, h1, h2⟩ => by
  by_cases hj : j = l
  · subst hj; exact ⟨j, d0, hi, h2⟩
  · rw [List.getElem?_set_ne hj] at h1; exact ⟨l, g, h1, h2⟩
/-! ### x = ys.pop() -/
def popF (i j : Nat) : Rho → Out := fun ρ => match ρ[j]? with
  | some (some (true, .lst ds)) => (match ds[ds.length - 1]? with
    | some d => .nx ((ρ.set j (some (true, .lst ds.dropLast))).set i (some (false, d)))
    | none => .stuck)
  | _ => .stuck
theorem Dens.dropLast : ∀ {ds : List D} {vs : List V}, Dens T A H ds vs → Dens T A H ds.dropLast vs.dropLast := fun {ds vs} h => by
  rw [List.dropLast_eq_take, List.dropLast_eq_take, h.length]
  exact h.take _
theorem bs_pop (S : Sok T N sc W k X) (hj : N[j]? = some y) (hv : Vis sc y) (hd : (y == ("__debug__" : Str)) = false) (hcd : (y == ("__classdict__" : Str)) = false) (hi : N[i]? = some x) (hx : Loc sc x)
    (hl : (apos.endLine == p2.line) = true) (hs : swapsWith (.Call (.Attribute (.Name y p) "pop" apos) [] [] p2) (some (.Name x px)) pos.line X.env = pure false) :
    PS X (.Assign [.Name x px] (.Call (.Attribute (.Name y p) "pop" apos) [] [] p2) pos) (tS T W (popF i j)) := by
  refine ps_imp (ps_set (i := i) (by rw [S.C.hN]; exact S.C.nd) (by rw [S.C.hN]; exact hi) (by rw [S.C.hsc]; exact hx) (pe_bm0 F.plainAttrs_list F.slot_list_pop F.type_list_pop mt_pop (pe_var (i := j) (by rw [S.C.hN]; exact hj) (by rw [S.C.hsc]; exact hv) hd hcd) rfl hl) hs (.inl (S.C.hfn rfl x))) fun De σ H ⟨H0, O, ρ, r, p⟩ => ?_
  unfold popF at p
  split at p
  · rename_i ds hj2
    obtain ⟨a, e1, e2, vs, e3, e4⟩ := r.own j _ hj2
    split at p
    · rename_i d hd2
      obtain ⟨v, q1, q2⟩ := e4.get hd2
      refine ⟨_, e1, .inl ⟨rfl, vs, .inl (.inl e3)⟩, a, vs, v, rfl, rfl, e3, by rw [e4.length]; exact q1, ?_⟩
      have r1 := r.updL hj2 e1 e4.dropLast
      have hm : Mb (H a) := by rw [e3]; trivial
      exact p _ _ (r1.set i ((q2.upd (.inr ⟨j, _, hj2, e1⟩) hm).weak (av_same hj2)))
    · exact p.elim
  · exact p.elim
/-! ### x = ys.pop(n) -/
theorem Dens.eraseIdx {ds : List D} {vs : List V} (n : Nat) (h : Dens T A H ds vs) : Dens T A H (ds.eraseIdx n) (vs.eraseIdx n) := by
  rw [List.eraseIdx_eq_take_drop_succ, List.eraseIdx_eq_take_drop_succ]
  exact (h.take _).append (h.drop _)
def popAtF (i j : Nat) (fi : Rho → R D) : Rho → Out := fun ρ => match ρ[j]? with
  | some (some (true, .lst ds)) => ofR (fi ρ) ρ fun
    | .int n => if smallI n = true then (match seqIndex? n ds.length with
      | some m => (match ds[m]? with
        | some d => .nx ((ρ.set j (some (true, .lst (ds.eraseIdx m)))).set i (some (false, d)))
        | none => .stuck)
      | none => .stuck) else .stuck
    | _ => .stuck
  | _ => .stuck
theorem bs_popAt {fi : Rho → R D} (S : Sok T N sc W k X) (hj : N[j]? = some y) (hv : Vis sc y) (hd : (y == ("__debug__" : Str)) = false) (hcd : (y == ("__classdict__" : Str)) = false) (hi : N[i]? = some x) (hx : Loc sc x) (he : PE X e (tB T W fi)) (h1 : isStar e = false)
    (hl : (apos.endLine == p2.line) = true) (hs : swapsWith (.Call (.Attribute (.Name y p) "pop" apos) [e] [] p2) (some (.Name x px)) pos.line X.env = pure false) :
    PS X (.Assign [.Name x px] (.Call (.Attribute (.Name y p) "pop" apos) [e] [] p2) pos) (tS T W (popAtF i j fi)) := by
  refine ps_imp (ps_set (i := i) (by rw [S.C.hN]; exact S.C.nd) (by rw [S.C.hN]; exact hi) (by rw [S.C.hsc]; exact hx) (pe_bm F.plainAttrs_list F.slot_list_pop F.type_list_pop mt_popAt (pe_var (i := j) (by rw [S.C.hN]; exact hj) (by rw [S.C.hsc]; exact hv) hd hcd) (pa_cons he pa_nil (star_cons h1)) rfl
    (by have := form_true (pos := p2) (env := X.env) (es := [e]) (kws := []) (ks := []) (by simp [noStar, h1]) rfl (by simp); exact this) hl (star_cons h1) rfl) hs (.inl (S.C.hfn rfl x))) fun De σ H ⟨H0, O, ρ, r, p⟩ => ?_
  unfold popAtF at p
  split at p
  · rename_i ds hj2
    obtain ⟨a, e1, e2, vs, e3, e4⟩ := r.own j _ hj2
    refine ⟨_, e1, .inl ⟨rfl, vs, .inl (.inl e3)⟩, tB.stmt r p fun dn w H1 x1 r1 d1 p1 => ?_⟩
    split at p1
    · rename_i n
      simp only [Den] at d1
      subst d1
      split at p1
      · rename_i hsm
        split at p1
        · rename_i m hm2
          split at p1
          · rename_i d hd2
            have e3' := x1 _ _ e3
            have e4' := e4.ex x1
            obtain ⟨v, q1, q2⟩ := e4'.get hd2
            have sm := smallI_ok hsm
            refine ⟨a, vs, n, m, v, rfl, rfl, e3', by omega, by omega, by rw [e4.length]; exact hm2, q1, ?_⟩
            have r2 := r1.updL hj2 e1 (e4'.eraseIdx m)
            have hm : Mb (H1 a) := by rw [e3']; trivial
            exact p1 _ _ (r2.set i ((q2.upd (.inr ⟨j, _, hj2, e1⟩) hm).weak (av_same hj2)))
          · exact p1.elim
        · exact p1.elim
      · exact p1.elim
    · exact p1.elim
  · exact p.elim
end
end BV
set_option Elab.async false
set_option linter.all false
set_option maxRecDepth 100000
set_option maxHeartbeats 1000000
namespace BV
open PySem L2 PySem.Spec PyProof.Rows
open Evl (Ex)

section
variable {T : Tb} {N : List Str} {sc : Scope} {W : WX} {k : Nat} {X : Cx} {O A : AP} {H0 H H' : Hp} {σ : L2.St} {ρ : Rho} {pos : Pos} {f g : Rho → R D} {e kx vx : Expr} {fb : Bool}
/-! ### {k: v} -/
theorem dict_pairsH {prog : Program} {w : World} {A : Around} {E : Value → Shared → Prop} {s : Shared} {env : Env} {keys : List (Option Expr)} {values : List Expr} {pairs : List (Sem Value × Sem Value)} {Q : Value → Shared → Prop} (hu : (nestedKind prog w).room A)
    (hshape : (evalEachOpt keys env).zip ((evalEach values env).map fun v => do let x ← v; standAt pos; pure x) = pairs.map fun p => (some p.1, p.2)) (h0 : pairs ≠ []) (hlen : pairs.length ≤ 15)
    (h : wpAny (model prog w) A (evalPairs pairs) (fun vs s₁ => ∃ ps, CarriesH (nestedKind prog w) s₁.heap vs ps ∧ s₁.heap.DictOfH (nestedKind prog w) s.heap.objs.size [] ∧
      ∀ h' tk, h'.DictOfH (nestedKind prog w) s.heap.objs.size (storedAllH [] ps) → Heap.SameBut s.heap.objs.size s₁.heap h' → Q (.ref s.heap.objs.size) { s₁ with heap := h', toks := tk }) E
      { s with heap := s.heap.push { cls := .type "dict", data := .dict #[] } }) :
    wpAny (model prog w) A (eval (.Dict keys values pos) env) Q E s := by
  rw [arm_eval_Dict, hshape, dictDisplay_pairs pairs h0 (by omega)]
  exact wpAny_bind (wpAny_standAt (wpAny_bind (wpAny_subDictH (knd := nestedKind prog w) (Q := fun d s' => wpAny (model prog w) A (pure (Value.ref d)) Q E s') hu hlen
    (wpAny_mono h (fun vs s₁ h₁ => by obtain ⟨ps, hc, hm, hq⟩ := h₁; exact ⟨ps, hc, hm, fun h' tk a b => wpAny_pure (hq h' tk a b)⟩) fun _ _ e => e))))
def tDisp1 (T : Tb) (tk tv : TE) : TE := fun σ H Q => ∀ p, H p = none → tk σ (upd H p (DictO T.w p ([], 0))) fun x H1 => tv σ H1 fun y H2 => H2 p = some (DictO T.w p ([], 0)) ∧ ∃ A kd kk, tkD kd = some kk ∧ Den T A H2 kd x ∧ ∀ ep, Q (.ref p) (upd H2 p (DictO T.w p ([(kk, x, y)], ep)))
theorem pe_disp1 {tk tv : TE} (C : Cok T N sc W k fb X) (hk : PE X kx tk) (hv : PE X vx tv) : PE X (.Dict [some kx] [vx] pos) (tDisp1 T tk tv) := by
  refine ⟨fun pins s σ H Q I q => ?_⟩
  have hn := I.hok.fresh (Nat.le_refl s.heap.objs.size)
  have I1 := I.laid (a := s.heap.objs.size) (o := DictO X.w s.heap.objs.size ([], 0)) (h' := s.heap.push { cls := .type "dict", data := .dict #[] }) (t' := s.toks) (fun _ _ q => Heap.get?_push_of_some _ q) (Nat.le_refl _) (dictO_empty s.heap I.big)
  have q1 := q _ hn
  rw [← C.hw] at q1
  refine dict_pairsH (pairs := pairTrees [some kx] [vx] X.env pos) (by show X.A.units + 8 < cLine; have := C.u64; omega) rfl (by intro z; cases z) (by show 1 ≤ 15; decide)
    (pairTrees_cons_walk (thn (hk.run pins _ σ _ _ I1 q1) fun u s1 ⟨x, H1, I2, rx, q2⟩ => thn (hv.run pins s1 σ H1 _ I2 q2) fun w2 s2 ⟨y, H2, I3, ry, e1, A, kd, kk, ht, hd, q3⟩ => pairTrees_nil_walk ?_))
  obtain ⟨z1, z2⟩ := tkD_some ht
  obtain ⟨b, rfl, rfl, kb⟩ := key_is I3 C.hK hd rx z1 z2
  rw [C.hw] at e1
  obtain ⟨hs, xs, d1, d2, _⟩ := dict_of (O := A) (ks := []) (es := ([], 0)) I3 C.hK C.hw e1 kok_nil (fun _ h => by simp at h) .nil
  cases d2
  refine ⟨[(kk, b, w2)], ⟨rfl, rfl, kb, trivial⟩, d1, fun h' tk dd hsb => ?_⟩
  have p : Paired EnR [(kk, V.ref b, y)] [(kk, b, w2)] := .cons ⟨rfl, rfl, ry⟩ .nil
  obtain ⟨ep, ok⟩ := dictO_ok (H := upd H2 s.heap.objs.size (.tup [])) (es := [(kk, V.ref b, y)]) hs dd p
  have hobj : ∃ o, h'.get? s.heap.objs.size = some o := by obtain ⟨o, _, _, z, _⟩ := dd; exact ⟨o, z⟩
  exact ⟨.ref s.heap.objs.size, _, d_write (t' := tk) (ob := DictO T.w s.heap.objs.size ([(kk, V.ref b, y)], ep)) I3 (by rw [e1]; exact True.intro) hsb hobj (by rw [← C.hw]; exact ok), rfl, by have := q3 ep; rw [C.hw] at this; exact this⟩
def dct1 (f g : Rho → R D) : Rho → R D := fun ρ => (f ρ).bind fun kd => (g ρ).bind fun v => match tkD kd with
  | some _ => .ok (.dct [kd] [v])
  | none => .stuck
theorem tB.bindN' {O' : AP} {k : D → R D} {Q K' : VK} {Hb : Hp} (r : Rel T H0 O' σ H ρ) (ho : ∀ a, O a → O' a) (eb : Ex Hb H) (p : PostN T W (Av O σ ρ) σ Hb ((f ρ).bind k) Q)
    (q : ∀ d v H1, Leaf (f ρ) d → Ex H H1 → Rel T H0 O' σ H1 ρ → Den T (Av O' σ ρ) H1 d v → PostN T W (Av O σ ρ) σ Hb (k d) Q → K' v H1) : tB T W f σ H K' := by
  refine ⟨H0, O', ρ, r, ?_⟩
  generalize f ρ = r0 at p q ⊢
  induction r0 with
  | ok d => exact fun v H1 e1 hd => q d v H1 (.ok d) e1 (r.mono e1) hd p
  | err c fs => exact fun x H1 e1 hd => p x H1 (eb.trans e1) (hd.weak fun a z => z.imp (ho a) id)
  | stuck => exact p
  | any k0 ih => exact fun i => ih i (p i) fun d v H1 l => q d v H1 (.any l)
theorem N_dct1 (C : Cok T N sc W k fb X) (hk : PE X kx (tB T W f)) (hv : PE X vx (tB T W g)) : PE X (.Dict [some kx] [vx] pos) (tF T W (dct1 f g)) := pe_imp (pe_disp1 C hk hv) fun σ H Q ⟨H0, O, ρ, r, p⟩ => by
  intro q hq
  have r1 := r.more (o := DictO T.w q ([], 0)) hq
  unfold dct1 at p
  refine tB.bindN' (O := O) r1 (fun a z => .inl z) (Ex.new hq) p fun kd x H1 e1 x1 r2 d1 p1 => tB.bindN' (O := O) r2 (fun a z => .inl z) ((Ex.new hq).trans x1) p1 fun v y H2 e2 x2 r3 d2 p2 => ?_
  have hq2 : H2 q = some (DictO T.w q ([], 0)) := x2 _ _ (x1 _ _ upd_same)
  refine ⟨hq2, ?_⟩
  split at p2
  · rename_i kk ht
    have hA : Av (fun a => O a ∨ a = q) σ ρ q := .inl (.inr rfl)
    have hm : Mb (H2 q) := by rw [hq2]; trivial
    obtain ⟨z1, z2⟩ := tkD_some ht
    refine ⟨_, kd, kk, ht, d1.ex x2, fun ep => p2 _ _ (fun b u hb => ?_) ⟨q, rfl, hq, ([(kk, x, y)], ep), upd_same, ⟨by simp [z1], by simp, .inl fun n hn => by simp at hn; subst hn; exact z2, by simp [sizeLine_eq]⟩, ?_, ?_⟩⟩
    · have ne : b ≠ q := fun z => by subst z; rw [hq] at hb; cases hb
      rw [upd_ne ne]
      exact x2 _ _ (x1 _ _ (by rw [upd_ne ne]; exact hb))
    · exact .cons (((d1.ex x2).upd hA hm).weak fun a z => z.elim (fun z => z.imp .inl id) fun z => .inl (.inr z)) .nil
    · exact .cons ((d2.upd hA hm).weak fun a z => z.elim (fun z => z.imp .inl id) fun z => .inl (.inr z)) .nil
  · exact p2.elim
end
end BV
set_option Elab.async false
set_option linter.all false
set_option maxRecDepth 100000
set_option maxHeartbeats 1000000
namespace BV
open PySem L2 PySem.Spec PyProof.Rows
open Evl (Ex)
section
variable {T : Tb} {N : List Str} {sc : Scope} {W : WX} {k : Nat} {X : Cx} {pos spos : Pos} {f g : Rho → R D} {e : Expr} {x : Str} {i : Nat} {fb : Bool}
theorem N_lc {elt iter tge : Expr} {ifs : List Expr} {scope : Scope} {tg : Tg} {vs : List Nat} {cond : Rho → R Bool} {eltF : Rho → R D} {items : Rho → R (List D)} (C : Cok T N sc W k fb X) (own : List (Str × Nat)) (hi : PI X tge iter (tI T W items))
    (hg : ∀ X', Cok T N (relS scope sc) WF k false X' → PG X' tge (tG T tg)) (ht : ∀ X', Cok T N (relS scope sc) WF k false X' → PTs X' ifs (tBT T WF cond)) (he : ∀ X', Cok T N (relS scope sc) WF k false X' → PE X' elt (tB T WF eltF))
    (ok : BlkOk N sc scope own := by exact ⟨rfl, by decide, by decide, by decide, by decide⟩) (hvs : own.map (·.2) = vs := by rfl) (hsl : ∀ i ∈ tg.slots, i ∈ vs := by decide) (hs : ∀ x, foldedSetIterable iter X.env x = pure x := by intro _; rfl) : PE X (.ListComp elt [⟨tge, iter, ifs, 0⟩] scope pos) (tF T W (lcF tg vs cond eltF items)) :=
  bf_lc C hi ok hvs hsl hg ht he hs
/-- x = [..], x an own list that a block reads -/
theorem S_lcOC {elt iter tge : Expr} {ifs : List Expr} {scope : Scope} {ppos : Pos} (S : Sok T N sc W k X) (he : PE X (.ListComp elt [⟨tge, iter, ifs, 0⟩] scope pos) (tF T W f)) (hi : N[i]? = some x := by rfl) (hx : Loc sc x := by first | exact Or.inl rfl | exact Or.inr rfl)
    (hsw : swapsWith (.ListComp elt [⟨tge, iter, ifs, 0⟩] scope pos) (some (.Name x ppos)) spos.line (env0 sc) = pure false := by rfl) :
    PS X (.Assign [.Name x ppos] (.ListComp elt [⟨tge, iter, ifs, 0⟩] scope pos) spos) (tS T W (letO i f)) := bs_setO S hi hx he (by rw [sws_env S.C.hsc]; exact hsw)
theorem ishape_pos {fd : FuncData} {ps : List Str} {n : Nat} (hb : Binds T.K fd ps []) (hn : n = ps.length) (h0 : 0 < n) : IShapeOk T fd ps n [] (srcP n) := by
  refine ⟨fun us _ => us, fun vs _ => vs, ⟨fun s us ws X l1 l2 => ?_, fun r1 r2 => r1⟩, fun O H x ds vs es zs h1 h2 l1 l2 => ⟨vs, rfl, by rw [bind_p (by simpa using l1)]; exact h1⟩⟩
  have := hb s us X (by rw [List.append_nil, l1, hn])
  simpa using this
end
end BV
set_option Elab.async false
set_option linter.all false
set_option maxRecDepth 100000
set_option maxHeartbeats 1000000
namespace BV
open PySem L2 PySem.Spec PyProof.Rows
open Evl (Ex)
section
variable {T : Tb} {N : List Str} {sc : Scope} {W : WX} {k : Nat} {X : Cx} {A O : AP} {H H0 : Hp} {σ : L2.St} {ρ : Rho} {pos spos : Pos} {f g : Rho → R D} {e : Expr} {x : Str} {i : Nat} {fb : Bool}
/-! ### xs[::-1] -/
def opRev : D → R D
  | .lst ds => .ok (.lst ds.reverse)
  | _ => .stuck
theorem E_rev {kk : Nat} {p1 p2 p3 : Pos} (C : Cok T N sc W k fb X) (he : PE X e (tP T W f)) : PE X (.Subscript e (.Slice none none (some (.UnaryOp .USub (.Constant (.int 1) kk p1) p2)) p3) pos) (tB T W (bndF opRev f)) := pe_imp (pe_revL he) fun σ H Q ⟨H0, O, ρ, r, p⟩ =>
  tP.bind r p fun d v H1 e0 e1 r1 d1 p1 => by
    cases d with
    | lst ds =>
      obtain ⟨a, vs, rfl, h1, h2⟩ := SDen.lst d1
      refine ⟨a, vs, rfl, .inl (.inl h1), ?_⟩
      exact okP.lst (T := T) (A := Av O σ ρ) (H := H1) (ds := ds.reverse) (vs := vs.reverse) p1 r1.avdom h2.reverse
    | _ => exact p1.elim
end
end BV
set_option Elab.async false
set_option linter.all false
set_option maxRecDepth 100000
set_option maxHeartbeats 1000000
namespace BV
open PySem L2 PySem.Spec PyProof.Rows
open Evl (Ex)
section
variable {T : Tb} {N : List Str} {sc : Scope} {W : WX} {k : Nat} {X : Cx} {pos : Pos} {f g h : Rho → R D} {a b c : Expr} {x y z : Str} {i j l : Nat} {o1 o2 o3 : Bool} {px py pz pt pt2 : Pos} {kt k2 : Nat}
/-- a, b = x, y where one of the names is a cell: by way of a tuple -/
theorem S_par2C (S : Sok T N sc W k X) (ha : PE X a (tE T W o1 f)) (hb : PE X b (tE T W o2 g)) (hi : N[i]? = some x := by rfl) (hj : N[j]? = some y := by rfl)
    (hx : Loc sc x := by first | exact Or.inl rfl | exact Or.inr rfl) (hy : Loc sc y := by first | exact Or.inl rfl | exact Or.inr rfl) (s1 : isStar a = false := by rfl) (s2 : isStar b = false := by rfl)
    (hw : swappedStores [.Tuple [.Name x px, .Name y py] kt pt] (.Tuple [a, b] k2 pt2) (env0 sc) = pure none := by rfl) :
    PS X (.Assign [.Tuple [.Name x px, .Name y py] kt pt] (.Tuple [a, b] k2 pt2) pos) (tS T W (par2 i j o1 o2 f g)) := by
  have C := S.C
  have nm : ∀ {n : Nat} {y : Str} {q : Pos}, N[n]? = some y → Loc sc y → PG X (.Name y q) (gName n) := fun hn hy => pg_name (by rw [C.hN]; exact C.nd) (by rw [C.hN]; exact hn) (by rw [C.hsc]; exact hy) (.inl (C.hfn rfl _))
  refine ps_imp (ps_asg (pe_tup (pa_cons ha (pa_cons hb pa_nil (star_cons s2)) (star_cons s1))) (pg_tup C.calm (pgs_cons (nm hi hx) (pgs_cons (nm hj hy) pgs_nil))) (by rfl) (by rw [sw_env S.C.hsc]; exact hw) rfl) fun De σ H ⟨H0, O, ρ, r, p⟩ => ?_
  refine tE.stmt r p fun d v H1 e1 n1 p1 => tE.stmt' (r.moreAt e1 n1) (p1.more fun _ => .inl) fun e w H2 q2 e2 n2 => ⟨by show 2 ≤ sizeLine; decide, fun ta hta => ?_⟩
  have p1 := q2.stmt p1
  have ex := Ex.new (o := .tup [v, w]) hta
  refine ⟨ta, [v, w], rfl, .inl (.inl upd_same), rfl, v, _, rfl, w, _, rfl, rfl, ?_⟩
  exact p1 _ _ (((r.setO i e1 n1).setO j e2 (n2.weak Av.after)).mono ex)
theorem S_par3C (S : Sok T N sc W k X) (ha : PE X a (tE T W o1 f)) (hb : PE X b (tE T W o2 g)) (hc : PE X c (tE T W o3 h)) (hi : N[i]? = some x := by rfl) (hj : N[j]? = some y := by rfl) (hl : N[l]? = some z := by rfl)
    (hx : Loc sc x := by first | exact Or.inl rfl | exact Or.inr rfl) (hy : Loc sc y := by first | exact Or.inl rfl | exact Or.inr rfl) (hz : Loc sc z := by first | exact Or.inl rfl | exact Or.inr rfl) (s1 : isStar a = false := by rfl) (s2 : isStar b = false := by rfl) (s3 : isStar c = false := by rfl)
    (hw : swappedStores [.Tuple [.Name x px, .Name y py, .Name z pz] kt pt] (.Tuple [a, b, c] k2 pt2) (env0 sc) = pure none := by rfl) :
    PS X (.Assign [.Tuple [.Name x px, .Name y py, .Name z pz] kt pt] (.Tuple [a, b, c] k2 pt2) pos) (tS T W (par3 i j l o1 o2 o3 f g h)) := by
  have C := S.C
  have nm : ∀ {n : Nat} {y : Str} {q : Pos}, N[n]? = some y → Loc sc y → PG X (.Name y q) (gName n) := fun hn hy => pg_name (by rw [C.hN]; exact C.nd) (by rw [C.hN]; exact hn) (by rw [C.hsc]; exact hy) (.inl (C.hfn rfl _))
  refine ps_imp (ps_asg (pe_tup (pa_cons ha (pa_cons hb (pa_cons hc pa_nil (star_cons s3)) (star_cons s2)) (star_cons s1))) (pg_tup C.calm (pgs_cons (nm hi hx) (pgs_cons (nm hj hy) (pgs_cons (nm hl hz) pgs_nil)))) (by rfl) (by rw [sw_env S.C.hsc]; exact hw) rfl) fun De σ H ⟨H0, O, ρ, r, p⟩ => ?_
  refine tE.stmt r p fun d v H1 e1 n1 p1 => tE.stmt' (r.moreAt e1 n1) (p1.more fun _ => .inl) fun e w H2 q2 e2 n2 => ?_
  have p1 := q2.stmt p1
  refine tE.stmt' ((r.moreAt e1 n1).moreAt e2 n2) (PostS.more p1 fun _ z => .inl (.inl z)) fun q x3 H3 q3 e3 n3 => ⟨by show 3 ≤ sizeLine; decide, fun ta hta => ?_⟩
  have p1 := q3.stmt p1
  have ex := Ex.new (o := .tup [v, w, x3]) hta
  refine ⟨ta, [v, w, x3], rfl, .inl (.inl upd_same), rfl, v, _, rfl, w, _, rfl, x3, _, rfl, rfl, ?_⟩
  have R1 := r.setO i e1 n1
  have R2 := R1.setO j e2 (n2.weak Av.after)
  have R3 := R2.setO l e3 (n3.weak fun a z => by
    have z1 := Av.after a z
    have z2 := Av.after a z1
    exact Av.mono (fun a z => z.elim (fun z => z.elim (fun z => .inl (.inl z)) .inr) (fun z => .inl (.inr z))) a z2)
  exact p1 _ _ (R3.mono ex)
end
end BV
set_option Elab.async false
set_option linter.all false
set_option maxRecDepth 100000
set_option maxHeartbeats 1000000
namespace BV
open PySem L2 PySem.Spec PyProof.Rows
open Evl (Ex)
section
variable {T : Tb} {N : List Str} {sc : Scope} {W : WX} {k : Nat} {X : Cx} {O A : AP} {H0 H H' : Hp} {σ : L2.St} {ρ : Rho} {pos p p2 apos : Pos} {f g : Rho → R D} {fl : Rho → R (List D)} {e a b tg : Expr} {x : Str} {i : Nat} {fb : Bool}
/-! ### list(d) -/
def biListK : List D → R D
  | [.dct ks _] => .ok (.lst ks)
  | _ => .stuck
theorem ne_listK : NoErr1 biListK := fun ds => by unfold biListK; split <;> rfl
theorem vals_at : ∀ {xs : List V} {us : List Value}, xs.length = us.length → (∀ (j : Nat) (x : V), xs[j]? = some x → ∃ u, us[j]? = some u ∧ RelV x u) → Vals xs us
  | [], [], _, _ => .nil
  | [], _ :: _, h, _ => by simp at h
  | _ :: _, [], h, _ => by simp at h
  | x :: xs, u :: us, h, q => by
    obtain ⟨u', e1, r1⟩ := q 0 x rfl
    simp at e1; subst e1
    exact .cons r1 (vals_at (by simpa using h) fun j y e => by
      obtain ⟨u', e1, r1⟩ := q (j + 1) y (by simpa using e)
      exact ⟨u', by simpa using e1, r1⟩)
theorem c_listKN (hc : X.calm = true) : CallR X (.type "list") (rCN T biListK) := by
  intro pins s σ H vs us Q I rv h
  obtain ⟨O, A, ds, dom, hd, q⟩ := h
  unfold biListK at q
  split at q
  · rename_i ks ws
    obtain ⟨v, rfl, h1⟩ := hd.one
    obtain ⟨a, es, rfl, e1, e2, e3, e4, e5⟩ := h1
    obtain ⟨u, rfl, rx⟩ := rv.one
    cases (show _ = Value.ref a from rx)
    obtain ⟨hs, o, ea, hgd, hx, hdt, hsz, ent⟩ := dictO_at I e1
    have hl : es.1.length = ks.length := by have := e4.length; simpa using this
    have hle := e3.le
    refine PySem.W.kdl_call (kdl_raw hs hx hdt) (I.ok.hd hc) hgd (by omega) fun h' tk acc' c' kp e it => ?_
    have rv : Vals (es.1.map fun e => e.2.1) acc'.toList := by
      refine vals_at (by rw [List.length_map, Array.length_toList, it.1, hsz]) fun j y ej => ?_
      rw [List.getElem?_map] at ej
      cases he : es.1[j]? with
      | none => rw [he] at ej; cases ej
      | some en =>
        rw [he] at ej
        simp only [Option.map_some, Option.some.injEq] at ej
        subst ej
        obtain ⟨x1, x2, x3, x4⟩ := ent j en he
        have hj : j < acc'.size := by
          have := (List.getElem?_eq_some_iff.mp he).1
          rw [it.1, hsz]; exact this
        obtain ⟨en', y1, y2⟩ := it.2 j acc'[j] (Array.getElem?_eq_getElem hj)
        rw [x2] at y1
        cases y1
        exact ⟨acc'[j], by rw [Array.getElem?_toList]; exact Array.getElem?_eq_getElem hj, by rw [y2]; exact x3⟩
    refine ⟨.ref s.heap.objs.size, _, I.laid (t' := tk) (o := .lst (es.1.map fun e => e.2.1)) kp (Nat.le_refl _) ?_, rfl, q.lst dom e4 _ (I.hok.fresh (Nat.le_refl _))⟩
    exact ⟨by rw [List.length_map]; omega, acc'.toList, c', rv, by rw [Array.toArray_toList]; exact e⟩
  · exact q.elim
theorem c_listK (hc : X.calm = true) : CallR X (.type "list") (rC T biListK) :=
  CallR.imp (c_listKN hc) fun vs H Q ⟨O, A, ds, dom, hd, q⟩ => ⟨O, A, ds, dom, hd, q.n dom⟩
theorem E_listK (C : Cok T N sc W k fb X) (hm : T.mg "list" = none) (ha : PA X [e] (tPs T W fl)) (hg : sc.names.lookup ("list" : Str) = some .globalImplicit := by rfl) (h1 : isStar e = false := by rfl) : PE X (.Call (.Name "list" p) [e] [] pos) (tB T W (appL biListK fl)) :=
  be_callTy ne_listK (c_listK C.calm) (C.gl hg) (C.mgn hm) (by decide +kernel) ha (by decide) (by decide) (star_cons h1) rfl
theorem N_listK (C : Cok T N sc W k fb X) (hm : T.mg "list" = none) (ha : PA X [e] (tPs T W fl)) (hg : sc.names.lookup ("list" : Str) = some .globalImplicit := by rfl) (h1 : isStar e = false := by rfl) : PE X (.Call (.Name "list" p) [e] [] pos) (tF T W (appL biListK fl)) :=
  pe_imp (pe_callTy (c_listKN C.calm) (C.gl hg) (C.mgn hm) (by decide +kernel) ha (by decide) (by decide) (star_cons h1) rfl) fun σ H Q ⟨H0, O, ρ, r, p⟩ =>
    tPs.bindN r p fun ds vs H1 _ e1 r1 d1 p1 => ⟨O, Av O σ ρ, ds, r1.avdom, d1, postN_ok (ne_listK ds) p1⟩
end
end BV
set_option Elab.async false
set_option linter.all false
set_option maxRecDepth 100000
set_option maxHeartbeats 1000000
namespace BV
open PySem L2 PySem.Spec PyProof.Rows
open Evl (Ex)
/-! ### the draws: [script, how many were drawn], the number is any -/
section
variable {T : Tb} {N : List Str} {sc : Scope} {W : WX} {k : Nat} {X : Cx} {O A : AP} {H0 H H' : Hp} {σ : L2.St} {ρ : Rho} {De : Ends} {pos p p2 p3 apos : Pos} {f g : Rho → R D} {e a b : Expr} {x : Str} {i : Nat} {fb : Bool} {pins : List (Addr × Obj)} {s : Shared}
theorem drw_ok {P : Program} {w : World} {H : Hp} {h : Heap} {a b : Addr} {n : Int} {t k : Nat} (e : h.get? a = some { cls := .type "list", data := .seq #[.ref b, .int n t] k }) : ObjOk P w H h a (DrwO a b) :=
  ⟨⟨n, t, k, e⟩, ⟨_, e⟩, fun g1 g2 ⟨n', t', k', q⟩ st => ⟨n', t', k', st _ q⟩⟩
theorem drw_at (I : Inv X pins σ H s) {a b : Addr} (h : H a = some (DrwO a b)) : ∃ (n : Int) (t k : Nat), s.heap.get? a = some { cls := .type "list", data := .seq #[.ref b, .int n t] k } := (I.hok a _ h).1
def rDrw : R2 := fun x y H Q => ∃ a b, x = .ref a ∧ H a = some (DrwO a b) ∧ ((y = .int 0 ∧ Q (.ref b) H) ∨ (y = .int 1 ∧ ∀ n, Q (.int n) H))
theorem ix_drw : IxR X rDrw := by
  intro value slice pins s σ H x y v u Q I rx ry h hs
  obtain ⟨a, b, rfl, e, h⟩ := h
  cases rx
  obtain ⟨n, t, k, q⟩ := drw_at I e
  have hl : s.heap.IsList a #[.ref b, .int n t] := ⟨_, q, rfl, k, rfl⟩
  rcases h with ⟨rfl, h⟩ | ⟨rfl, h⟩
  · obtain ⟨t', rfl⟩ := ry
    exact item_listR (x := .ref b) hl (by decide) (by decide) rfl ⟨.ref b, H, I, rfl, h⟩ hs
  · obtain ⟨t', rfl⟩ := ry
    exact item_listR (x := .int n t) hl (by decide) (by decide) rfl ⟨.int n, H, I, ⟨t, rfl⟩, h n⟩ hs
def drw0 : D → R D
  | .drw ns => .ok (.scr ns)
  | _ => .stuck
def drw1 : D → R D
  | .drw _ => .any fun n => .ok (.int n)
  | _ => .stuck
theorem E_drw0 {j : Nat} (ha : PE X a (tB T W f)) : PE X (.Subscript a (.Constant (.int 0) j p) pos) (tB T W (bndF drw0 f)) := by
  refine pe_imp (pe_ix ix_drw ha pe_int (fun _ _ => rfl)) fun σ H Q ⟨H0, O, ρ, r, p⟩ => tB.bind r p fun d v H1 _ e1 r1 d1 p1 => ?_
  cases d with
  | drw ns =>
    simp only [Den] at d1
    obtain ⟨a, b, rfl, q1, q2, q3⟩ := d1
    exact ⟨a, b, rfl, q1, .inl ⟨rfl, p1 _ H1 (Ex.refl H1) (by simp only [Den]; exact ⟨b, rfl, q3⟩)⟩⟩
  | _ => exact p1.elim
theorem E_drw1 {j : Nat} (ha : PE X a (tB T W f)) : PE X (.Subscript a (.Constant (.int 1) j p) pos) (tB T W (bndF drw1 f)) := by
  refine pe_imp (pe_ix ix_drw ha pe_int (fun _ _ => rfl)) fun σ H Q ⟨H0, O, ρ, r, p⟩ => tB.bind r p fun d v H1 _ e1 r1 d1 p1 => ?_
  cases d with
  | drw ns =>
    simp only [Den] at d1
    obtain ⟨a, b, rfl, q1, q2, q3⟩ := d1
    exact ⟨a, b, rfl, q1, .inr ⟨rfl, fun n => p1 n _ H1 (Ex.refl H1) (by simp [Den])⟩⟩
  | _ => exact p1.elim
/-! draw[1] = e -/
def rSetDrw : TSet := fun o i v H Q => ∃ a b n, o = .ref a ∧ i = .int 1 ∧ v = .int n ∧ H a = some (DrwO a b) ∧ Q H
theorem set_drw : PSet X rSetDrw := by
  intro pins s σ H o i v ov iv u Q I ro ri rv h
  obtain ⟨a, b, m, rfl, rfl, rfl, e, q⟩ := h
  cases ro
  obtain ⟨t', rfl⟩ := ri
  obtain ⟨t2, rfl⟩ := rv
  obtain ⟨n, t, k, ho⟩ := drw_at I e
  refine PySem.W.ki_setAt ho (by decide) (by decide) (by show (1 : Int) < 2; decide) ⟨H, ?_, q⟩
  have hf : Obj.mapSeq (·.setIfInBounds (1 : Int).toNat (Value.int m t2)) { cls := .type "list", data := .seq #[.ref b, .int n t] k } = { cls := .type "list", data := .seq #[.ref b, .int m t2] k } := by simp [Obj.mapSeq]
  have e' : (s.heap.update a (Obj.mapSeq (·.setIfInBounds (1 : Int).toNat (Value.int m t2)))).get? a = some { cls := .type "list", data := .seq #[.ref b, .int m t2] k } := by
    rw [Heap.get?_update_self _ ho (by rw [hf] <;> rfl), hf]
  have I' := I.write (x := a) (e := a) (o := DrwO a b) (t' := s.toks) (by rw [e]; trivial) (.inl rfl) (fun b u hb q => (Heap.get?_update_other _ _ (Ne.symm hb)).trans q) ⟨_, e'⟩ (drw_ok e')
  have hu : upd H a (DrwO a b) = H := by
    funext c
    by_cases hc : c = a
    · subst hc; rw [upd_same, e]
    · rw [upd_ne hc]
  rw [hu] at I'
  exact I'
def setDF (i : Nat) (f : Rho → R D) : Rho → Out := fun ρ => ofR (f ρ) ρ fun d => match d, ρ[i]? with
  | .int _, some (some (false, .drw _)) => .nx ρ
  | _, _ => .stuck
theorem S_setD {j : Nat} (S : Sok T N sc W k X) (i : Nat) (he : PE X e (tB T W f)) (hi : N[i]? = some x := by rfl) (hv : Vis sc x := by first | exact Or.inl rfl | exact Or.inr (Or.inl rfl) | exact Or.inr (Or.inr rfl)) (hd : (x == ("__debug__" : Str)) = false := by decide) (hcd : (x == ("__classdict__" : Str)) = false := by decide)
    (ha : ∀ v, assign (.Subscript (.Name x p) (.Constant (.int 1) j p3) p2) X.env v = (do
      let ov ← holding [v] (eval (.Name x p) X.env)
      let iv ← holding [v, ov] (eval (.Constant (.int 1) j p3) X.env)
      standAt p2
      holding [v, ov, iv] (setItem ov iv v)
      release [v, ov, iv] []) := by intro _; rfl)
    (hs : swapsWithSole [.Subscript (.Name x p) (.Constant (.int 1) j p3) p2] e pos.line X.env = pure false := by rfl) (hw : swappedStores [.Subscript (.Name x p) (.Constant (.int 1) j p3) p2] e X.env = pure none := by rfl) :
    PS X (.Assign [.Subscript (.Name x p) (.Constant (.int 1) j p3) p2] e pos) (tS T W (setDF i f)) := by
  refine ps_imp (ps_asg he (pg_sub (pe_var (i := i) (by rw [S.C.hN]; exact hi) (by rw [S.C.hsc]; exact hv) hd hcd) pe_int set_drw ha) hs hw rfl) fun De σ H ⟨H0, O, ρ, r, p⟩ => ?_
  unfold setDF at p
  refine tB.stmt r p fun d v H1 x1 r1 d1 p1 => ?_
  split at p1
  · rename_i n ns hi2
    obtain ⟨v2, e1, e2⟩ := r1.val i _ hi2
    simp only [Den] at e2 d1
    obtain ⟨a, b, rfl, q1, q2, q3⟩ := e2
    exact ⟨_, e1, a, b, n, rfl, rfl, d1, q1, p1 σ H1 r1⟩
  · exact p1.elim
/-! [script, 0] -/
def drwN : D → R D
  | .scr ns => .ok (.drw ns)
  | _ => .stuck
def tDrwNew (t : TE) : TE := fun σ H Q => t σ H fun v H1 => ∃ b, v = .ref b ∧ ∀ q, H1 q = none → Q (.ref q) (upd H1 q (DrwO q b))
theorem pe_drwNew {j : Nat} {t : TE} (ha : PE X a t) (h1 : isStar a = false) : PE X (.List [a, .Constant (.int 0) j p] pos) (tDrwNew t) := by
  have h : PA X [a, .Constant (.int 0) j p] (tCons t (tCons (tC (.int 0)) tNil)) := pa_cons ha (pa_cons pe_int pa_nil rfl) (star_cons h1)
  refine ⟨fun pins s σ H Q I hq => ?_⟩
  refine wpAny_List_spliced (thn (h.run pos pins s σ H (fun vs H1 => ∃ b, vs = [.ref b, .int 0] ∧ ∀ q, H1 q = none → Q (.ref q) (upd H1 q (DrwO q b))) I ?_) fun us s1 ⟨xs, H1, I1, r, b, z, q⟩ => ?_)
  · exact (show t σ H _ from by
      have : (fun v H1 => ∃ b, v = V.ref b ∧ ∀ q, H1 q = none → Q (.ref q) (upd H1 q (DrwO q b))) = (fun v H1 => ∃ b, [v, V.int 0] = [V.ref b, V.int 0] ∧ ∀ q, H1 q = none → Q (.ref q) (upd H1 q (DrwO q b))) := by
        funext v H1; simp
      have q2 : t σ H fun v H1 => ∃ b, [v, V.int 0] = [V.ref b, V.int 0] ∧ ∀ q, H1 q = none → Q (.ref q) (upd H1 q (DrwO q b)) := by rw [← this]; exact hq
      exact q2)
  · subst z
    obtain ⟨u, u2, rfl, ru, ⟨t2, ru2⟩⟩ := vals2 r
    cases ru
    subst ru2
    have hf : H1 s1.heap.objs.size = none := I1.hok.fresh (Nat.le_refl _)
    refine ⟨by rw [sizeLine_eq]; show 2 ≤ 16777216; decide, .ref s1.heap.objs.size, upd H1 s1.heap.objs.size (DrwO s1.heap.objs.size b), I1.laid (t' := s1.toks) (fun b u e => Heap.get?_push_of_some _ e) (Nat.le_refl _) ?_, rfl, q _ hf⟩
    exact drw_ok (n := 0) (t := t2) (k := 0) (Heap.get?_push_size _ rfl)
theorem E_drwNew {j : Nat} (ha : PE X a (tB T W f)) (h1 : isStar a = false := by rfl) : PE X (.List [a, .Constant (.int 0) j p] pos) (tB T W (bndF drwN f)) := by
  refine pe_imp (pe_drwNew ha h1) fun σ H Q ⟨H0, O, ρ, r, p⟩ => tB.bind r p fun d v H1 _ e1 r1 d1 p1 => ?_
  cases d with
  | scr ns =>
    simp only [Den] at d1
    obtain ⟨b, rfl, q1⟩ := d1
    refine ⟨b, rfl, fun q hq => p1 _ _ (Ex.new hq) ?_⟩
    simp only [Den]
    exact ⟨q, b, rfl, upd_same, fun z => r1.avdom q z hq, q1.mono (Ex.new hq)⟩
  | _ => exact p1.elim
end
end BV
set_option Elab.async false
set_option linter.all false
set_option maxRecDepth 100000
set_option maxHeartbeats 1000000
namespace BV
open PySem L2 PySem.Spec PyProof.Rows
open Evl (Ex)
section
variable {T : Tb} {N : List Str} {sc : Scope} {W : WX} {k : Nat} {X : Cx} {O A : AP} {H0 H H' : Hp} {σ : L2.St} {ρ : Rho} {De : Ends} {pos p p2 p3 apos : Pos} {f g : Rho → R D} {e a b : Expr} {x y : Str} {i j : Nat} {fb : Bool} {pins : List (Addr × Obj)} {s : Shared} {Φ : Nat → Fn}
/-! ### a slice as a new list -/
def rSlN (T : Tb) : V → Option Int → Option Int → Hp → VK → Prop := fun v lo hi H Q => ∃ O A d, (∀ a, A a → H a ≠ none) ∧ SDen T O A H d v ∧ okN T A H (opSl d lo hi) Q
theorem sl_N (hK : X.K = T.K) : SlR X (rSlN T) := by
  refine SlR.imp (sl_list.or sl_tupA) fun v lo hi H Q h => ?_
  obtain ⟨O, A, d, dom, hd, q⟩ := h
  cases d with
  | lst ds =>
    obtain ⟨a, vs, rfl, h1, h2⟩ := hd.lst
    exact .inl ⟨a, vs, rfl, .inl (.inl h1), q.lst dom (h2.cut lo hi)⟩
  | scr ns =>
    obtain ⟨a, rfl, h1⟩ := hd.scr
    refine .inl ⟨a, _, rfl, by rw [hK]; exact h1.sq, ?_⟩
    rw [cutA_map]
    exact q.lst dom (Dens.int _)
  | tup ds =>
    obtain ⟨a, vs, rfl, h1, h2⟩ := hd.tup
    have hl := h2.length
    refine .inr ⟨a, vs, rfl, by rw [hK]; exact h1, fun e => ?_, fun _ p hp => q _ _ (Ex.new hp) ?_⟩
    · rw [hl] at e
      refine q _ H (Ex.refl H) ?_
      rw [cut_whole e]
      show Den T A H (.tup ds) _
      simp only [Den]
      exact ⟨a, vs, rfl, h1, h2⟩
    · show Den T A _ (.tup (cutA ds lo hi)) _
      simp only [Den]
      exact ⟨p, _, rfl, .inl (.inl upd_same), (h2.cut lo hi).ex (Ex.new hp)⟩
  | _ => exact q.elim
theorem tBO.bindN {f : Rho → R (Option Int)} {k : Option Int → R D} {Q : VK} {R' : Option Int → Hp → Prop} (r : Rel T H0 O σ H ρ) (h : PostN T W (Av O σ ρ) σ H ((f ρ).bind k) Q)
    (q : ∀ b H1, Leaf (f ρ) b → Ex H H1 → Rel T H0 O σ H1 ρ → PostN T W (Av O σ ρ) σ H1 (k b) Q → R' b H1) : tBO T W f σ H R' := by
  refine ⟨H0, O, ρ, r, ?_⟩
  generalize f ρ = r0 at h q ⊢
  induction r0 with
  | ok d => exact fun H1 e1 => q d H1 (.ok d) e1 (r.mono e1) (PostN.mono (r := k d) h e1)
  | err c fs => exact h
  | stuck => exact h
  | any k0 ih => exact fun i => ih i (h i) fun d H1 l => q d H1 (.any l)
theorem N_sl {lo hi : Option Expr} {fo fh : Rho → R (Option Int)} {p2 : Pos} (C : Cok T N sc W k fb X) (he : PE X e (tP T W f)) (hl : PO X lo (tBO T W fo)) (hh : PO X hi (tBO T W fh)) : PE X (.Subscript e (.Slice lo hi none p2) pos) (tF T W (slF f fo fh)) :=
  pe_imp (pe_slice (sl_N C.hK) he hl hh) fun σ H Q ⟨H0, O, ρ, r, p⟩ =>
    tP.bindN r p fun d v H1 _ e1 r1 d1 p1 => tBO.bindN r1 p1 fun l H2 _ e2 r2 p2 => tBO.bindN r2 p2 fun h H3 _ e3 r3 p3 => ⟨O, Av O σ ρ, d, r3.avdom, (d1.ex e2).ex e3, postN_ok (ne_sl d l h) p3⟩
/-! ### xs.clear(), xs.reverse() -/
def mapLF (i : Nat) (F : List D → List D) : Rho → Out := fun ρ => match ρ[i]? with
  | some (some (true, .lst ds)) => .nx (ρ.set i (some (true, .lst (F ds))))
  | _ => .stuck
def clrF (i : Nat) : Rho → Out := mapLF i fun _ => []
def rvsF (i : Nat) : Rho → Out := mapLF i List.reverse
theorem S_clr (S : Sok T N sc W k X) (i : Nat) (hi : N[i]? = some x := by rfl) (hv : Vis sc x := by first | exact Or.inl rfl | exact Or.inr (Or.inl rfl) | exact Or.inr (Or.inr rfl)) (hd : (x == ("__debug__" : Str)) = false := by decide) (hcd : (x == ("__classdict__" : Str)) = false := by decide)
    (hl : (apos.endLine == p2.line) = true := by rfl) : PS X (.Expr (.Call (.Attribute (.Name x p) "clear" apos) [] [] p2) pos) (tS T W (clrF i)) := by
  refine ps_imp (ps_expr (pe_bm0 F.plainAttrs_list F.slot_list_clear F.type_list_clear mt_clear (pe_var (i := i) (by rw [S.C.hN]; exact hi) (by rw [S.C.hsc]; exact hv) hd hcd) rfl hl) rfl) fun De σ H ⟨H0, O, ρ, r, p⟩ => ?_
  unfold clrF mapLF at p
  split at p
  · rename_i ds hi2
    obtain ⟨a, e1, e2, vs, e3, e4⟩ := r.own i _ hi2
    exact ⟨_, e1, .inl ⟨rfl, vs, .inl (.inl e3)⟩, a, vs, rfl, rfl, e3, p σ _ (r.updL hi2 e1 .nil)⟩
  · exact p.elim
theorem S_rvs (S : Sok T N sc W k X) (i : Nat) (hi : N[i]? = some x := by rfl) (hv : Vis sc x := by first | exact Or.inl rfl | exact Or.inr (Or.inl rfl) | exact Or.inr (Or.inr rfl)) (hd : (x == ("__debug__" : Str)) = false := by decide) (hcd : (x == ("__classdict__" : Str)) = false := by decide)
    (hl : (apos.endLine == p2.line) = true := by rfl) : PS X (.Expr (.Call (.Attribute (.Name x p) "reverse" apos) [] [] p2) pos) (tS T W (rvsF i)) := by
  refine ps_imp (ps_expr (pe_bm0 F.plainAttrs_list F.slot_list_reverse F.type_list_reverse mt_reverse (pe_var (i := i) (by rw [S.C.hN]; exact hi) (by rw [S.C.hsc]; exact hv) hd hcd) rfl hl) rfl) fun De σ H ⟨H0, O, ρ, r, p⟩ => ?_
  unfold rvsF mapLF at p
  split at p
  · rename_i ds hi2
    obtain ⟨a, e1, e2, vs, e3, e4⟩ := r.own i _ hi2
    exact ⟨_, e1, .inl ⟨rfl, vs, .inl (.inl e3)⟩, a, vs, rfl, rfl, e3, p σ _ (r.updL hi2 e1 e4.reverse)⟩
  · exact p.elim
/-! ### C(xs), xs the body's own list, where __init__ copies it -/
def spCopy (C : Addr) (g : Str) : Sp := fun vs H Q _ => ∃ x a dx ws, vs = [.ref x, .ref a] ∧ H x = some (.ins C dx []) ∧ H a = some (.lst ws) ∧ ∀ p, H p = none → Q .non (upd (upd H p (.lst ws)) x (.ins C dx [(g, .ref p)]))
theorem FnOk_copy {yy qual : Str} {params : Arguments} {dvs : List V} {kws : List (Str × V)} {fa : Addr} {fd : FuncData} {ps : List Str} {c : Nat} {gf sn xn : Str} {p4 p5 p6 : Pos}
    (Fd : FunD T.K yy qual params [.Assign [.Attribute (.Name sn p) gf p2] (.Call (.Name "list" p3) [.Name xn p4] [] p5) p6] sc dvs kws fa fd) (S : FnScope [sn, xn] ps sc) (hn : 2 = ps.length)
    (hl : T.mg "list" = none) (hg : sc.names.lookup ("list" : Str) = some .globalImplicit) (v0 : Vis sc sn) (v1 : Vis sc xn) (hd0 : (sn == ("__debug__" : Str)) = false) (hcd0 : (sn == ("__classdict__" : Str)) = false) (hd1 : (xn == ("__debug__" : Str)) = false) (hcd1 : (xn == ("__classdict__" : Str)) = false)
    (hc : Cls T.K (T.cls c)) (hna : NoAttr T.K (T.cls c) gf) : FnOk T.prog T.w T.K T.mg T.base (L2.CX T.prog T.w) 2 fa fd ps (spCopy (T.cls c) gf) := by
  refine Fd.ok (k := 1) S (fun vs H Q E ⟨x, a, dx, ws, e, _⟩ => by rw [e, ← hn]; rfl) fun cdv A outer s H vs Q E hr h => ?_
  obtain ⟨x, a, dx, ws, rfl, h1, h2, q⟩ := h
  have SS := sok_of (T := T) (E := E) (H := H) (outer := outer) S.nd hr
  have C := SS.C
  refine ⟨_, pss_one (ps_fld (pe_var (i := 0) (by rw [C.hN]; rfl) (by rw [C.hsc]; exact v0) hd0 hcd0) (pe_callTy call_list_of (C.gl hg) (C.mgn hl) (by decide +kernel) (pa_cons (pe_var (i := 1) (by rw [C.hN]; rfl) (by rw [C.hsc]; exact v1) hd1 hcd1) pa_nil (star_cons rfl)) (by decide) (by decide)) (swap_no rfl)), ?_⟩
  refine ⟨_, rfl, a, ws, rfl, .inl (.inl (.inl h2)), fun l hl2 => ⟨_, rfl, x, T.cls c, dx, [], rfl, ?_, hc, hna, by decide, q l hl2⟩⟩
  rw [upd_ne (ne_of_none h1 hl2)]; exact h1
def copyF (c i : Nat) : Rho → R D := fun ρ => match ρ[i]? with
  | some (some (true, .lst ds)) => .ok (.ins c [.lst ds])
  | _ => .stuck
theorem E_mkCopy {kf cn g0 : Nat} {gf : Str} (C : Cok T N sc W k fb X) (i : Nat) (Fk : FnOk T.prog T.w T.K T.mg T.base (L2.CX T.prog T.w) kf (Φ g0).addr (Φ g0).fd (Φ g0).ps (spCopy (T.cls cn) gf)) (Mk' : Mk T.K (T.cls cn) (Φ g0).addr) (hm : T.mg x = some (.ref (T.cls cn)))
    (hb : Binds T.K (Φ g0).fd (Φ g0).ps []) (hn : 2 = (Φ g0).ps.length) (hfl : T.flds cn = [gf]) (hk : kf + 1 ≤ k := by decide) (hg : sc.names.lookup x = some .globalImplicit := by rfl) (hdb : (x == ("__debug__" : Str)) = false := by decide)
    (hN : N[i]? = some y := by rfl) (hv : Vis sc y := by first | exact Or.inl rfl | exact Or.inr (Or.inl rfl) | exact Or.inr (Or.inr rfl)) (hd : (y == ("__debug__" : Str)) = false := by decide) (hcd : (y == ("__classdict__" : Str)) = false := by decide) :
    PE X (.Call (.Name x p) [.Name y p2] [] pos) (tB T W (copyF cn i)) := by
  refine ⟨fun pins s σ H Q I h => ?_⟩
  obtain ⟨H0, O, ρ, r, pp⟩ := h
  unfold copyF at pp
  split at pp
  · rename_i ds hi2
    obtain ⟨a, e1, e2, vs, e3, e4⟩ := r.own i _ hi2
    have ha : PA X [.Name y p2] (tCons (tVar i) tNil) := pa_cons (pe_var (i := i) (by rw [C.hN]; exact hN) (by rw [C.hsc]; exact hv) hd hcd) pa_nil (star_cons rfl)
    have q : tCons (tVar i) tNil σ H fun us H1 => tNil σ H1 fun zs H2 => us = [V.ref a] ∧ zs = [] ∧ H2 = H := ⟨_, e1, rfl, rfl, rfl⟩
    refine wpAny_Call_Name_kw (ld_glob I (C.gl hg) (C.mgs hm) ?_ hdb)
    refine callWith_any (first := []) (ks := []) (by rw [C.hK]; exact Mk'.kp) ha pk_nil rfl rfl (fun e => nomatch e) I q fun us ws s2 vs' zs H2 I2 rv rz ⟨l1, l2, l3⟩ => ?_
    subst l1 l2 l3
    cases rz
    have kb : KBn X.K (Φ g0).fd (Φ g0).ps 2 [] (fun us _ => us) (fun vs _ => vs) := by
      rw [C.hK]
      refine ⟨fun s us ws X l1 l2 => ?_, fun r1 r2 => r1⟩
      have := hb s us X (by rw [List.append_nil, l1, hn])
      simpa using this
    have hF : FnOk X.prog X.w X.K X.mg X.base (L2.CX X.prog X.w) kf (Φ g0).addr (Φ g0).fd (Φ g0).ps (spCopy (T.cls cn) gf) := by
      rw [C.hP, C.hw, C.hK, C.hmg, C.hbase]; exact Fk
    refine run_mkD (ks := []) (ws := []) (zs := []) (n := 1) (by rw [C.hK]; exact Mk') hF (C.room.mono hk) kb (passAt C.tk σ) I2 rv .nil rfl rfl fun z dx hz hdx hne => ?_
    refine ⟨z, a, dx, vs, rfl, upd_same, ?_, fun q hq => ⟨rfl, ?_⟩⟩
    · have n1 : a ≠ z := ne_of_none e3 hz
      have n2 : a ≠ dx := ne_of_none e3 hdx
      rw [upd_ne n1, upd_ne n2]; exact e3
    · have qz : q ≠ z := fun w => by subst w; rw [upd_same] at hq; cases hq
      have qd : q ≠ dx := fun w => by subst w; rw [upd_ne qz, upd_same] at hq; cases hq
      have hq0 : H2 q = none := by rw [upd_ne qz, upd_ne qd] at hq; exact hq
      have ex : Ex H2 (upd (upd (upd (upd H2 dx (.own z)) z (.ins (T.cls cn) dx [])) q (.lst vs)) z (.ins (T.cls cn) dx [(gf, .ref q)])) := fun b o hb => by
        have b1 : b ≠ z := ne_of_none hb hz
        have b2 : b ≠ dx := ne_of_none hb hdx
        have b3 : b ≠ q := ne_of_none hb hq0
        rw [upd_ne b1, upd_ne b3, upd_ne b1, upd_ne b2]; exact hb
      refine pp _ _ ex ?_
      simp only [Den, Dens]
      refine ⟨z, dx, [.ref q], rfl, by rw [hfl]; exact upd_same, by rw [hfl]; rfl, fun w => r.avdom z w hz, .ref q, [], rfl, ⟨q, vs, rfl, ?_, fun w => r.avdom q w hq0, e4.ex ex⟩, rfl⟩
      rw [upd_ne qz, upd_same]
  · exact pp.elim
end
end BV
set_option Elab.async false
set_option linter.all false
set_option maxRecDepth 100000
set_option maxHeartbeats 1000000
namespace BV
open PySem L2 PySem.Spec PyProof.Rows
open Evl (Ex)
section
variable {T : Tb} {N : List Str} {sc : Scope} {W : WX} {k : Nat} {fb : Bool} {X : Cx} {O A : AP} {H0 H H' : Hp} {σ : L2.St} {ρ : Rho} {Q : VK} {pins : List (Addr × Obj)} {s : Shared}
/-! ### ==, != of instances of two classes -/
def opEqJ (c c2 : Nat) (M : List D → R D) (x y : D) : R D := match x, y with
  | .ins a fs, .ins b gs => if a = c ∧ b = c2 then (blOf (M [.ins a fs, .ins b gs])).bind fun r => .ok (.bl r) else .stuck
  | _, _ => .stuck
def opNeJ (c c2 : Nat) (M : List D → R D) (x y : D) : R D := match x, y with
  | .ins a fs, .ins b gs => if a = c ∧ b = c2 then (blOf (M [.ins a fs, .ins b gs])).bind fun r => .ok (.bl (!r)) else .stuck
  | _, _ => .stuck
theorem ty_looksJ {c : Nat} {gs : List D} {w : V} {z : Value} (hK : X.K = T.K) (hi : InsOk T c) (I : Inv X pins σ H s) (rz : RelV w z) (hy : SDen T O A H (.ins c gs) w) : PySem.W.Looks (model X.prog X.w) s.heap (typeOf z) (.ref (T.cls c)) := by
  have ty : TyX X.K H w (tyVal T (.ins c gs)) := by
    rw [hK]
    exact SDen.ty (cs := [c]) (fun c' h => by simp at h; subst h; exact hi) (by simp [topIn]) hy
  obtain ⟨P, kx, hP, _⟩ := kit_of I rz ty
  exact kx.ty _ _ I.kIn hP
theorem not_firstJ {c c2 : Nat} (hs : PySem.W.subIn T.K (.ref (T.cls c2)) (.ref (T.cls c)) = some false) : PySem.W.notFirst T.K (T.cls c) (.ref (T.cls c2)) = true := by
  unfold PySem.W.notFirst; rw [hs]; simp
theorem op_eqJ {kf c c2 g : Nat} {Φ : Nat → Fn} {M : List D → R D} (hK : X.K = T.K) (E : EqOk T Φ c g) (hi : InsOk T c) (hi2 : InsOk T c2) (hs : PySem.W.subIn T.K (.ref (T.cls c2)) (.ref (T.cls c)) = some false) (F : FnOk X.prog X.w X.K X.mg X.base (L2.CX X.prog X.w) kf (Φ g).addr (Φ g).fd (Φ g).ps (spB T 2 M)) (hr : Room kf X.A) :
    OpR X (compareOp .Eq) (rD T (opEqJ c c2 M)) := by
  intro pins s σ H v w u z Q I ru rz h
  obtain ⟨O, A, x, y, dom, hx, hy, q⟩ := h
  unfold opEqJ at q
  split at q
  · rename_i a0 fs b0 gs
    split at q
    · rename_i hc
      obtain ⟨rfl, rfl⟩ := hc
      cases hm : M [.ins a0 fs, .ins b0 gs] with
      | ok d =>
        rw [hm] at q
        cases d with
        | bl b =>
          obtain ⟨a, dx, vs, rfl, h1, _⟩ := hx.ins
          obtain rfl : u = Value.ref a := ru
          obtain ⟨ox, od, J⟩ := inst_at I h1
          obtain ⟨m, hF⟩ := I.fr
          have hL := ty_looksJ hK hi2 I rz hy
          refine PySem.W.cmp_K (op := .Eq) hr.units0 hF I.ok.mod.kin J hL (by rw [hK]; exact not_firstJ hs) (by rw [hK]; exact E.at_) (by rw [hK]; exact E.fn) ?_
          refine wpAny_mono (own_rel hK E hi F ⟨hr, rfl⟩ I (show RelV (V.ref a) (Value.ref a) from rfl) rz dom hx hy trivial hm) (fun r s' hq => ?_) fun _ _ e => e
          obtain ⟨v', H', I', rv, rfl, ex⟩ := hq
          obtain rfl : r = Value.bool b := rv
          exact ⟨.bl b, H', I', rfl, q _ H' ex (by simp [Den])⟩
        | _ => exact q.elim
      | _ => rw [hm] at q; exact q.elim
    · exact q.elim
  · exact q.elim
theorem op_neJ {kf c c2 g : Nat} {Φ : Nat → Fn} {M : List D → R D} (hK : X.K = T.K) (E : EqOk T Φ c g) (hi : InsOk T c) (hi2 : InsOk T c2) (hs : PySem.W.subIn T.K (.ref (T.cls c2)) (.ref (T.cls c)) = some false) (F : FnOk X.prog X.w X.K X.mg X.base (L2.CX X.prog X.w) kf (Φ g).addr (Φ g).fd (Φ g).ps (spB T 2 M)) (hr : Room (kf + 1) X.A) :
    OpR X (compareOp .NotEq) (rD T (opNeJ c c2 M)) := by
  intro pins s σ H v w u z Q I ru rz h
  obtain ⟨O, A, x, y, dom, hx, hy, q⟩ := h
  unfold opNeJ at q
  split at q
  · rename_i a0 fs b0 gs
    split at q
    · rename_i hc
      obtain ⟨rfl, rfl⟩ := hc
      cases hm : M [.ins a0 fs, .ins b0 gs] with
      | ok d =>
        rw [hm] at q
        cases d with
        | bl b =>
          obtain ⟨a, dx, vs, rfl, h1, _⟩ := hx.ins
          obtain rfl : u = Value.ref a := ru
          obtain ⟨ox, od, J⟩ := inst_at I h1
          obtain ⟨m, hF⟩ := I.fr
          have hL := ty_looksJ hK hi2 I rz hy
          refine ne_K (by have := hr.un; omega) hF I.ok.mod.kin J hL (by rw [hK]; exact not_firstJ hs) (by rw [hK]; exact E.ne) (by rw [hK]; exact E.at_) (by rw [hK]; exact E.fn) (by rw [hK]; exact E.ob) ?_
          refine wpAny_mono (own_rel hK E hi F ⟨hr.in1, rfl⟩ I (show RelV (V.ref a) (Value.ref a) from rfl) rz dom hx hy trivial hm) (fun r s' hq => ?_) fun _ _ e => e
          obtain ⟨v', H', I', rv, rfl, ex⟩ := hq
          obtain rfl : r = Value.bool b := rv
          exact ⟨b, rfl, .bl (!b), H', I', rfl, q _ H' ex (by simp [Den])⟩
        | _ => exact q.elim
      | _ => rw [hm] at q; exact q.elim
    · exact q.elim
  · exact q.elim
theorem ne_eqJ {n m : Nat} {M : List D → R D} : NoErr2 (opEqJ n m M) := fun x y => by
  unfold opEqJ; split <;> (try rfl); split <;> (try rfl); exact blOf_ne fun _ => rfl
theorem ne_neJ {n m : Nat} {M : List D → R D} : NoErr2 (opNeJ n m M) := fun x y => by
  unfold opNeJ; split <;> (try rfl); split <;> (try rfl); exact blOf_ne fun _ => rfl
theorem R_eqJ {kf n m gg : Nat} {Φ : Nat → Fn} {M : List D → R D} (C : Cok T N sc W k fb X) (E : EqOk T Φ n gg) (hi : InsOk T n) (hi2 : InsOk T m) (hs : PySem.W.subIn T.K (.ref (T.cls m)) (.ref (T.cls n)) = some false) (F : FnOk T.prog T.w T.K T.mg T.base (L2.CX T.prog T.w) kf (Φ gg).addr (Φ gg).fd (Φ gg).ps (spB T 2 M)) (hk : kf ≤ k := by decide) : CR X T .Eq (opEqJ n m M) := ⟨ne_eqJ, op_eqJ C.hK E hi hi2 hs (C.fn F) (C.room.mono hk)⟩
theorem R_neJ {kf n m gg : Nat} {Φ : Nat → Fn} {M : List D → R D} (C : Cok T N sc W k fb X) (E : EqOk T Φ n gg) (hi : InsOk T n) (hi2 : InsOk T m) (hs : PySem.W.subIn T.K (.ref (T.cls m)) (.ref (T.cls n)) = some false) (F : FnOk T.prog T.w T.K T.mg T.base (L2.CX T.prog T.w) kf (Φ gg).addr (Φ gg).fd (Φ gg).ps (spB T 2 M)) (hk : kf + 1 ≤ k := by decide) : CR X T .NotEq (opNeJ n m M) := ⟨ne_neJ, op_neJ C.hK E hi hi2 hs (C.fn F) (C.room.mono hk)⟩
end
end BV
set_option Elab.async false
set_option linter.all false
set_option maxRecDepth 100000
set_option maxHeartbeats 1000000
namespace BV
open PySem L2
variable {α β : Type} {ρ : Rho} {F G : Rho → Out} {f g h : Rho → R D} {t : Rho → R Bool} {d e : D} {i j : Nat}
@[simp] theorem s_bok {a : α} {k : α → R β} : (R.ok a).bind k = k a := rfl
@[simp] theorem s_berr {c : Nat} {fs : List D} {k : α → R β} : (R.err c fs : R α).bind k = .err c fs := rfl
@[simp] theorem s_bst {k : α → R β} : (R.stuck : R α).bind k = .stuck := rfl
@[simp] theorem s_runF {n : Nat} {ds : List D} : runF n F ds = outR (F (startR n ds)) := rfl
@[simp] theorem s_seq : seqF F G ρ = seqO (F ρ) G := rfl
@[simp] theorem s_let : letF i f ρ = ofR (f ρ) ρ fun d => .nx (ρ.set i (some (false, d))) := rfl
@[simp] theorem s_letO : letO i f ρ = ofR (f ρ) ρ fun d => .nx (ρ.set i (some (ownD d, d))) := rfl
@[simp] theorem s_ret : retF f ρ = ofR (f ρ) ρ .rt := rfl
@[simp] theorem s_if : ifF t F G ρ = ofT (t ρ) ρ fun b => if b then F ρ else G ρ := rfl
@[simp] theorem s_ex : exprF f ρ = ofR (f ρ) ρ fun _ => .nx ρ := rfl
@[simp] theorem s_nx : nxF ρ = .nx ρ := rfl
@[simp] theorem s_tgt {tg : Tg} : tgtF tg f ρ = ofR (f ρ) ρ fun d => match tg.bind d ρ with | some ρ' => .nx ρ' | none => .stuck := rfl
@[simp] theorem s_ofRok {k : D → Out} : ofR (.ok d) ρ k = k d := rfl
@[simp] theorem s_ofRerr {c : Nat} {fs : List D} {k : D → Out} : ofR (.err c fs) ρ k = .err c fs ρ := rfl
@[simp] theorem s_ofTok {b : Bool} {k : Bool → Out} : ofT (.ok b) ρ k = k b := rfl
@[simp] theorem s_ofTerr {c : Nat} {fs : List D} {k : Bool → Out} : ofT (.err c fs) ρ k = .err c fs ρ := rfl
@[simp] theorem s_ofWok {ds : List D} {k : List D → Out} : ofW (.ok ds) ρ k = k ds := rfl
@[simp] theorem s_snx {k : Rho → Out} : seqO (.nx ρ) k = k ρ := rfl
@[simp] theorem s_srt {k : Rho → Out} : seqO (.rt d) k = .rt d := rfl
@[simp] theorem s_serr {c : Nat} {fs : List D} {k : Rho → Out} : seqO (.err c fs ρ) k = .err c fs ρ := rfl
@[simp] theorem s_ort : outR (.rt d) = .ok d := rfl
@[simp] theorem s_onx : outR (.nx ρ) = .ok .non := rfl
@[simp] theorem s_oerr {c : Nat} {fs : List D} : outR (.err c fs ρ) = .err c fs := rfl
@[simp] theorem s_bin {O : D → D → R D} : bin2 O f g ρ = (f ρ).bind fun x => (g ρ).bind fun y => O x y := rfl
@[simp] theorem s_const : constF d ρ = .ok d := rfl
@[simp] theorem s_bnd {K : D → R D} : bndF K f ρ = (f ρ).bind K := rfl
@[simp] theorem s_app {K : List D → R D} {fl : Rho → R (List D)} : appL K fl ρ = (fl ρ).bind K := rfl
@[simp] theorem s_nil : nilL ρ = .ok [] := rfl
@[simp] theorem s_cons {fl : Rho → R (List D)} : consL f fl ρ = (f ρ).bind fun x => (fl ρ).bind fun xs => .ok (x :: xs) := rfl
@[simp] theorem s_tst : tst f ρ = (f ρ).bind truth := rfl
@[simp] theorem s_truth {b : Bool} : truth (.bl b) = .ok b := rfl
@[simp] theorem s_notB : notB t ρ = (t ρ).bind fun b => .ok (!b) := rfl
@[simp] theorem s_andB {t' : Rho → R Bool} : andB t t' ρ = (t ρ).bind fun b => if b then t' ρ else .ok false := rfl
@[simp] theorem s_orB {t' : Rho → R Bool} : orB t t' ρ = (t ρ).bind fun b => if b then .ok true else t' ρ := rfl
@[simp] theorem s_andV : andV f g ρ = (f ρ).bind fun x => (truth x).bind fun b => if b then g ρ else .ok (.bl false) := rfl
@[simp] theorem s_orV : orV f g ρ = (f ρ).bind fun x => (truth x).bind fun b => if b then .ok (.bl true) else g ρ := rfl
@[simp] theorem s_notV : notV f ρ = (f ρ).bind fun x => (truth x).bind fun b => .ok (.bl (!b)) := rfl
@[simp] theorem s_iteV : iteV t f g ρ = (t ρ).bind fun b => if b then f ρ else g ρ := rfl
@[simp] theorem s_chn {O P : D → D → R D} : chn O P f g h ρ = (f ρ).bind fun x => (g ρ).bind fun y => (O x y).bind fun z => (truth z).bind fun b => if b then (h ρ).bind fun w => P y w else .ok (.bl false) := by
  unfold chn
  congr 1; funext x; congr 1; funext y; congr 1; funext z; congr 1; funext b; cases b <;> rfl
@[simp] theorem s_cmp {p : Int → Int → Bool} {a b : Int} : opCmp p (.int a) (.int b) = .ok (.bl (p a b)) := rfl
@[simp] theorem s_add {a b : Int} : opAdd (.int a) (.int b) = .ok (.int (a + b)) := rfl
@[simp] theorem s_sub {a b : Int} : opSub (.int a) (.int b) = .ok (.int (a - b)) := rfl
@[simp] theorem s_callF {n m : Nat} {src : List Src} {M : List D → R D} {fl fk : Rho → R (List D)} : callF n m src M fl fk ρ = (fl ρ).bind fun ds => (fk ρ).bind fun es => if ds.length = n ∧ es.length = m then M (bindS src ds es) else .stuck := rfl
@[simp] theorem s_lst_len {ds : List D} : Bi.ev .len [.lst ds] = .ok (.int ds.length) := rfl
@[simp] theorem s_tup_len {ds : List D} : Bi.ev .len [.tup ds] = .ok (.int ds.length) := rfl
@[simp] theorem s_int {a : Int} : Bi.ev .int [.int a] = .ok (.int a) := rfl
@[simp] theorem s_for {tg : Tg} {it : Rho → R (List D)} : forF tg it F ρ = ofW (it ρ) ρ fun ds => forGo tg.bind F ds ρ := rfl
@[simp] theorem s_par {b1 b2 : Bool} : par2 i j b1 b2 f g ρ = ofR (f ρ) ρ fun d => ofR (g ρ) ρ fun e => .nx ((ρ.set i (some (ownO b1 d, d))).set j (some (ownO b2 e, e))) := rfl
@[simp] theorem s_own0 : ownO false d = false := rfl
@[simp] theorem s_isN : opIsN d .non = .ok (.bl d.isNon) := by cases d <;> rfl
@[simp] theorem s_notN : opNotN d .non = .ok (.bl (!d.isNon)) := by cases d <;> rfl
@[simp] theorem s_nn : D.isNon .non = true := rfl
@[simp] theorem s_nb {b : Bool} : D.isNon (.bl b) = false := rfl
@[simp] theorem s_ni {b : Int} : D.isNon (.int b) = false := rfl
@[simp] theorem s_ns {b : Str} : D.isNon (.str b) = false := rfl
@[simp] theorem s_nt {b : List D} : D.isNon (.tup b) = false := rfl
@[simp] theorem s_nl {b : List D} : D.isNon (.lst b) = false := rfl
@[simp] theorem s_nI {c : Nat} {b : List D} : D.isNon (.ins c b) = false := rfl

section
variable {α β : Type} {ρ : Rho} {F G : Rho → Out} {f g h : Rho → R D} {t : Rho → R Bool} {d e : D} {i j : Nat}
@[simp] theorem s_mkG {c : Nat} {s : Shp} {MI : List D → R (List D)} {fl fk : Rho → R (List D)} : mkG c s MI fl fk ρ = (fl ρ).bind fun ds => (fk ρ).bind fun es => if ds.length + 1 = s.n ∧ es.length = s.ks.length then (MI (bindS s.src (.non :: ds) es).tail).bind fun fs => .ok (.ins c fs) else .stuck := rfl
@[simp] theorem s_runI {n c nf : Nat} {ds : List D} : runI n c nf F ds = outI c nf (F (startI n c ds)) := rfl
@[simp] theorem s_oierr {c nf k : Nat} {fs : List D} : outI c nf (.err k fs ρ) = .err k fs := rfl
@[simp] theorem s_mkT {fl : Rho → R (List D)} : mkT fl ρ = (fl ρ).bind fun xs => if xs.length ≤ sizeLine then .ok (.tup xs) else .stuck := rfl
@[simp] theorem s_mkL {fl : Rho → R (List D)} : mkL fl ρ = (fl ρ).bind fun xs => if xs.length ≤ sizeLine then .ok (.lst xs) else .stuck := rfl
@[simp] theorem s_raise1 {c : Nat} {ok : D → Bool} : raise1 c ok f ρ = ofR (f ρ) ρ fun d => if ok d then .err c [d] ρ else .stuck := rfl
@[simp] theorem s_raise0 {c : Nat} : raise0 c ρ = .err c [.non] ρ := rfl
@[simp] theorem s_raiseP {c : Nat} : raiseP c ρ = .err c [] ρ := rfl
@[simp] theorem s_zip : itZip f g ρ = (f ρ).bind fun d => (g ρ).bind fun e => (seqD d).bind fun ds => (seqD e).bind fun es => .ok (zipD ds es) := rfl
@[simp] theorem s_enum : itEnum f ρ = (f ρ).bind fun d => (seqD d).bind fun ds => .ok (enumD ds) := rfl
@[simp] theorem s_itSeq : itSeq f ρ = (f ρ).bind seqD := rfl
@[simp] theorem s_itRng1 {fl : Rho → R (List D)} : itRng1 fl ρ = (fl ρ).bind rng1 := rfl
@[simp] theorem s_itRng2 {fl : Rho → R (List D)} : itRng2 fl ρ = (fl ρ).bind rng2 := rfl
@[simp] theorem s_seqL {ds : List D} : seqD (.lst ds) = .ok ds := rfl
@[simp] theorem s_seqT {ds : List D} : seqD (.tup ds) = .ok ds := rfl
@[simp] theorem s_ixL {ds : List D} {i : Int} : opIx (.lst ds) (.int i) = atD ds i := rfl
@[simp] theorem s_ixT {ds : List D} {i : Int} : opIx (.tup ds) (.int i) = atD ds i := rfl
theorem at_nat {l : List D} {k : Nat} {d : D} (h : l[k]? = some d) : atD l (k : Int) = .ok d := by
  obtain ⟨hk, _⟩ := List.getElem?_eq_some_iff.mp h
  unfold atD atI ixN
  rw [if_pos (by omega), if_pos (by omega)]
  simp only [Int.toNat_natCast, Option.bind_some, h]
@[simp] theorem s_at0 {a : D} {l : List D} : atD (a :: l) 0 = .ok a := at_nat (k := 0) rfl
@[simp] theorem s_at1 {a b : D} {l : List D} : atD (a :: b :: l) 1 = .ok b := at_nat (k := 1) rfl
@[simp] theorem s_at2 {a b c : D} {l : List D} : atD (a :: b :: c :: l) 2 = .ok c := at_nat (k := 2) rfl
@[simp] theorem s_at3 {a b c d : D} {l : List D} : atD (a :: b :: c :: d :: l) 3 = .ok d := at_nat (k := 3) rfl
@[simp] theorem s_at4 {a b c d e : D} {l : List D} : atD (a :: b :: c :: d :: e :: l) 4 = .ok e := at_nat (k := 4) rfl
@[simp] theorem s_at5 {a b c d e f : D} {l : List D} : atD (a :: b :: c :: d :: e :: f :: l) 5 = .ok f := at_nat (k := 5) rfl
@[simp] theorem s_meth {M : Nat → List D → R D} {alts : List (Nat × Shp)} {fl fk : Rho → R (List D)} : methF M alts f fl fk ρ = (f ρ).bind fun d => match recv alts d with
  | some s => (fl ρ).bind fun ds => (fk ρ).bind fun es => if (d :: ds).length = s.n ∧ es.length = s.ks.length then M s.f (bindS s.src (d :: ds) es) else .stuck
  | none => .stuck := rfl
@[simp] theorem s_sl {lo hi : Rho → R (Option Int)} : slF f lo hi ρ = (f ρ).bind fun d => (lo ρ).bind fun l => (hi ρ).bind fun h => opSl d l h := rfl
@[simp] theorem s_noneF : noneF ρ = .ok none := rfl
@[simp] theorem s_someF {k : Int} (h : f ρ = .ok (.int k)) : someF f ρ = .ok (some k) := by simp [someF, h]
@[simp] theorem s_slT {ds : List D} {lo hi : Option Int} : opSl (.tup ds) lo hi = .ok (.tup (cutA ds lo hi)) := rfl
@[simp] theorem s_slL {ds : List D} {lo hi : Option Int} : opSl (.lst ds) lo hi = .ok (.lst (cutA ds lo hi)) := rfl
theorem nat_lit_le {n : Nat} (h : n ≤ 16777216) : n ≤ sizeLine := by rw [sizeLine_eq]; exact h
@[simp] theorem s_addT {x y : List D} (h : x.length + y.length ≤ sizeLine) : opAdd (.tup x) (.tup y) = .ok (.tup (x ++ y)) := by simp [opAdd, h]
@[simp] theorem s_addL {x y : List D} (h : x.length + y.length ≤ sizeLine) : opAdd (.lst x) (.lst y) = .ok (.lst (x ++ y)) := by simp [opAdd, h]
@[simp] theorem s_forN {bind : D → Rho → Option Rho} : forGo bind F [] ρ = .nx ρ := rfl
@[simp] theorem s_forC {bind : D → Rho → Option Rho} {ds : List D} : forGo bind F (d :: ds) ρ = match bind d ρ with | none => .stuck | some ρ' => loopO (F ρ') (forGo bind F ds) := rfl
@[simp] theorem s_tgn : Tg.bind (.n i) d ρ = some (ρ.set i (some (false, d))) := rfl
@[simp] theorem s_tgt2 {is : List Nat} {ds : List D} : Tg.bind (.t is) (.tup ds) ρ = setAll ρ is ds := rfl
@[simp] theorem s_set0 : setAll ρ [] [] = some ρ := rfl
@[simp] theorem s_setC {is : List Nat} {ds : List D} : setAll ρ (i :: is) (d :: ds) = setAll (ρ.set i (some (false, d))) is ds := rfl
@[simp] theorem s_lnx {k : Rho → Out} : loopO (.nx ρ) k = k ρ := rfl
@[simp] theorem s_lct {k : Rho → Out} : loopO (.ct ρ) k = k ρ := rfl
@[simp] theorem s_lbk {k : Rho → Out} : loopO (.bk ρ) k = .nx ρ := rfl
@[simp] theorem s_lrt {k : Rho → Out} : loopO (.rt d) k = .rt d := rfl
@[simp] theorem s_lerr {c : Nat} {fs : List D} {k : Rho → Out} : loopO (.err c fs ρ) k = .err c fs ρ := rfl
@[simp] theorem s_rdV0 {r : Rho} : rdV 0 (some (false, d) :: r) = .ok d := rfl
@[simp] theorem s_rdVs {o : Option Slot} {r : Rho} : rdV (i + 1) (o :: r) = rdV i r := rfl
@[simp] theorem s_rdP0 {r : Rho} : rdP 0 (some (false, d) :: r) = .ok d := rfl
@[simp] theorem s_rdPo {r : Rho} {l : List D} : rdP 0 (some (true, .lst l) :: r) = .ok (.lst l) := rfl
@[simp] theorem s_rdPod {r : Rho} {l m : List D} : rdP 0 (some (true, .dct l m) :: r) = .ok (.dct l m) := rfl
@[simp] theorem s_rdPs {o : Option Slot} {r : Rho} : rdP (i + 1) (o :: r) = rdP i r := rfl
@[simp] theorem s_eqI {a b : Int} : opEq (.int a) (.int b) = .ok (.bl (decide (a = b))) := by
  simp [opEq, D.toP, SeqAt.shaped, PyData.canLay0, PyData.depth, PyData.eqv]
  by_cases h : a = b <;> simp [h]
@[simp] theorem s_neI {a b : Int} : opNe (.int a) (.int b) = .ok (.bl (!decide (a = b))) := by
  simp [opNe, D.toP, SeqAt.shaped, PyData.canLay0, PyData.depth, PyData.eqv]
  by_cases h : a = b <;> simp [h]
@[simp] theorem s_max {a b : Int} : Bi.ev .max2 [.int a, .int b] = .ok (.int (max a b)) := by
  show R.ok (D.int (if b > a then b else a)) = _
  congr 2
  split <;> omega
@[simp] theorem s_min {a b : Int} : Bi.ev .min2 [.int a, .int b] = .ok (.int (min a b)) := by
  show R.ok (D.int (if b < a then b else a)) = _
  congr 2
  split <;> omega
@[simp] theorem s_eqB {a b : Bool} : opEq (.bl a) (.bl b) = .ok (.bl (decide (a = b))) := by cases a <;> cases b <;> kernel_rfl
@[simp] theorem s_neB {a b : Bool} : opNe (.bl a) (.bl b) = .ok (.bl (!decide (a = b))) := by cases a <;> cases b <;> kernel_rfl
@[simp] theorem s_retlast {r : R D} {K : Rho → Out} : outR (seqO (ofR r ρ .rt) K) = r := by
  induction r with
  | any k ih => exact congrArg R.any (funext fun i => ih i)
  | _ => rfl
mutual
theorem eqv_refl : ∀ (p : PyData), p.canLay0 = true → PyData.eqv p p = true
  | .none, _ => by simp [PyData.eqv]
  | .bool _, _ => by simp [PyData.eqv]
  | .int _, _ => by simp [PyData.eqv]
  | .str _, _ => by simp [PyData.eqv]
  | .list xs, h => by simp only [PyData.eqv]; exact eqvAll_refl xs (by simpa [PyData.canLay0] using h)
  | .tuple xs, h => by simp only [PyData.eqv]; exact eqvAll_refl xs (by simpa [PyData.canLay0] using h)
  | .dict _, h => by simp [PyData.canLay0] at h
theorem eqvAll_refl : ∀ (p : List PyData), PyData.canLayAll0 p = true → PyData.eqvAll p p = true
  | [], _ => by simp [PyData.eqvAll]
  | x :: xs, h => by
    simp only [PyData.canLayAll0, Bool.and_eq_true] at h
    simp only [PyData.eqvAll, eqv_refl x h.1, eqvAll_refl xs h.2, Bool.and_self]
end
end
end BV
set_option Elab.async false
set_option linter.all false
set_option maxRecDepth 100000
set_option maxHeartbeats 4000000
namespace BV
open PySem L2 PySem.Spec PyProof.Rows
open Evl (Ex)
/-! ### what may come, all of it -/
def Holds0 {α : Type} (r : R α) (P : α → Prop) : Prop := match r with
  | .ok a => P a
  | .any k => ∀ i, Holds0 (k i) P
  | .err _ _ => False
  | .stuck => False
def HoldsO0 (o : Out) (P : Out → Prop) : Prop := match o with
  | .any k => ∀ i, HoldsO0 (k i) P
  | .nx ρ => P (.nx ρ)
  | .rt d => P (.rt d)
  | .bk ρ => P (.bk ρ)
  | .ct ρ => P (.ct ρ)
  | .err c fs ρ => P (.err c fs ρ)
  | .stuck => P .stuck
/-- all that may come is good -/
structure Holds {α : Type} (r : R α) (P : α → Prop) : Prop where
  h : Holds0 r P
/-- all ends of a statement are good -/
structure HoldsO (o : Out) (P : Out → Prop) : Prop where
  h : HoldsO0 o P
/-- a law's answer -/
structure LawOk (r : R D) : Prop where
  h : Holds r (· = .bl true)
section
variable {α β : Type}
theorem holds_any {k : Int → R α} {P : α → Prop} : Holds (.any k) P ↔ ∀ i, Holds (k i) P := ⟨fun h i => ⟨h.h i⟩, fun h => ⟨fun i => (h i).h⟩⟩
@[simp] theorem holds_okI {a : α} {P : α → Prop} : Holds (.ok a) P ↔ P a := ⟨fun h => h.h, fun h => ⟨h⟩⟩
theorem holdsO_any {k : Int → Out} {P : Out → Prop} : HoldsO (.any k) P ↔ ∀ i, HoldsO (k i) P := ⟨fun h i => ⟨h.h i⟩, fun h => ⟨fun i => (h i).h⟩⟩
@[simp] theorem holdsO_nx {ρ : Rho} {P : Out → Prop} : HoldsO (.nx ρ) P ↔ P (.nx ρ) := ⟨fun h => h.h, fun h => ⟨h⟩⟩
@[simp] theorem holdsO_rt {d : D} {P : Out → Prop} : HoldsO (.rt d) P ↔ P (.rt d) := ⟨fun h => h.h, fun h => ⟨h⟩⟩
@[simp] theorem holdsO_bk {ρ : Rho} {P : Out → Prop} : HoldsO (.bk ρ) P ↔ P (.bk ρ) := ⟨fun h => h.h, fun h => ⟨h⟩⟩
@[simp] theorem holdsO_ct {ρ : Rho} {P : Out → Prop} : HoldsO (.ct ρ) P ↔ P (.ct ρ) := ⟨fun h => h.h, fun h => ⟨h⟩⟩
@[simp] theorem holdsO_err {c : Nat} {fs : List D} {ρ : Rho} {P : Out → Prop} : HoldsO (.err c fs ρ) P ↔ P (.err c fs ρ) := ⟨fun h => h.h, fun h => ⟨h⟩⟩
theorem Holds.noErr {c : Nat} {fs : List D} {P : α → Prop} (h : Holds (.err c fs : R α) P) : False := h.h
theorem Holds.noStuck {P : α → Prop} (h : Holds (.stuck : R α) P) : False := h.h
theorem Holds.mono {r : R α} {P Q : α → Prop} (h : Holds r P) (i : ∀ a, P a → Q a) : Holds r Q := by
  induction r with
  | ok a => exact ⟨i a h.h⟩
  | err c fs => exact h.noErr.elim
  | stuck => exact h.noStuck.elim
  | any k ih => exact holds_any.mpr fun j => ih j (holds_any.mp h j)
theorem holds_bind {r : R α} {f : α → R β} {P : β → Prop} : Holds (r.bind f) P ↔ Holds r (fun a => Holds (f a) P) := by
  induction r with
  | ok a => exact ⟨fun h => ⟨h⟩, fun h => h.h⟩
  | err c fs => exact ⟨fun h => h.h.elim, fun h => h.h.elim⟩
  | stuck => exact ⟨fun h => h.h.elim, fun h => h.h.elim⟩
  | any k ih => exact ⟨fun h => holds_any.mpr fun i => (ih i).mp (holds_any.mp h i), fun h => holds_any.mpr fun i => (ih i).mpr (holds_any.mp h i)⟩
theorem HoldsO.mono {o : Out} {P Q : Out → Prop} (h : HoldsO o P) (i : ∀ a, P a → Q a) : HoldsO o Q := by
  induction o with
  | any k ih => exact holdsO_any.mpr fun j => ih j (holdsO_any.mp h j)
  | _ => exact ⟨i _ h.h⟩
theorem holds_ofR {r : R D} {ρ : Rho} {k : D → Out} {P : Out → Prop} (h : Holds r fun d => HoldsO (k d) P) : HoldsO (ofR r ρ k) P := by
  induction r with
  | ok a => exact h.h
  | err c fs => exact h.noErr.elim
  | stuck => exact h.noStuck.elim
  | any k ih => exact holdsO_any.mpr fun j => ih j (holds_any.mp h j)
theorem holds_ofT {r : R Bool} {ρ : Rho} {k : Bool → Out} {P : Out → Prop} (h : Holds r fun d => HoldsO (k d) P) : HoldsO (ofT r ρ k) P := by
  induction r with
  | ok a => exact h.h
  | err c fs => exact h.noErr.elim
  | stuck => exact h.noStuck.elim
  | any k ih => exact holdsO_any.mpr fun j => ih j (holds_any.mp h j)
theorem holds_ofW {r : R (List D)} {ρ : Rho} {k : List D → Out} {P : Out → Prop} (h : Holds r fun d => HoldsO (k d) P) : HoldsO (ofW r ρ k) P := by
  induction r with
  | ok a => exact h.h
  | err c fs => exact h.noErr.elim
  | stuck => exact h.noStuck.elim
  | any k ih => exact holdsO_any.mpr fun j => ih j (holds_any.mp h j)
theorem holds_seqO {o : Out} {k : Rho → Out} {P : Out → Prop} (h : HoldsO o fun o => HoldsO (seqO o k) P) : HoldsO (seqO o k) P := by
  induction o with
  | any k ih => exact holdsO_any.mpr fun j => ih j (holdsO_any.mp h j)
  | _ => exact h.h
theorem holds_loopO {o : Out} {k : Rho → Out} {P : Out → Prop} (h : HoldsO o fun o => HoldsO (loopO o k) P) : HoldsO (loopO o k) P := by
  induction o with
  | any k ih => exact holdsO_any.mpr fun j => ih j (holdsO_any.mp h j)
  | _ => exact h.h
theorem holds_outR {o : Out} {P : D → Prop} (h : HoldsO o fun o => Holds (outR o) P) : Holds (outR o) P := by
  induction o with
  | any k ih => exact holds_any.mpr fun j => ih j (holdsO_any.mp h j)
  | _ => exact h.h
theorem holds_tryO {o : Out} {cs : List Nat} {cat : Nat → Bool} {G : List D → Rho → Out} {P : Out → Prop} (h : HoldsO o fun o => HoldsO (tryO cs cat G o) P) : HoldsO (tryO cs cat G o) P := by
  induction o with
  | any k ih => exact holdsO_any.mpr fun j => ih j (holdsO_any.mp h j)
  | _ => exact h.h
end
/-! ### steps of a body that draws -/
section
variable {ρ : Rho} {B F G : Rho → Out} {f g h : Rho → R D} {P : D → Prop} {i j k : Nat} {o1 o2 o3 : Bool} {t : Rho → R Bool}
theorem h_seq {o : Out} (h : HoldsO o fun o => Holds (outR (seqO o B)) P) : Holds (outR (seqO o B)) P := by
  induction o with
  | any k ih => exact holds_any.mpr fun j => ih j (holdsO_any.mp h j)
  | _ => exact h.h
theorem h_let (h : Holds (f ρ) fun d => Holds (outR (B (ρ.set i (some (false, d))))) P) : Holds (outR (seqF (letF i f) B ρ)) P := h_seq (holds_ofR (h.mono fun _ z => ⟨z⟩))
theorem h_letO (h : Holds (f ρ) fun d => Holds (outR (B (ρ.set i (some (ownD d, d))))) P) : Holds (outR (seqF (letO i f) B ρ)) P := h_seq (holds_ofR (h.mono fun _ z => ⟨z⟩))
theorem h_par2 (h : Holds (f ρ) fun d => Holds (g ρ) fun e => Holds (outR (B ((ρ.set i (some (ownO o1 d, d))).set j (some (ownO o2 e, e))))) P) : Holds (outR (seqF (par2 i j o1 o2 f g) B ρ)) P :=
  h_seq (holds_ofR (h.mono fun _ z => holds_ofR (z.mono fun _ y => ⟨y⟩)))
theorem h_par3 (hh : Holds (f ρ) fun d => Holds (g ρ) fun e => Holds (h ρ) fun q => Holds (outR (B (((ρ.set i (some (ownO o1 d, d))).set j (some (ownO o2 e, e))).set k (some (ownO o3 q, q))))) P) : Holds (outR (seqF (par3 i j k o1 o2 o3 f g h) B ρ)) P :=
  h_seq (holds_ofR (hh.mono fun _ z => holds_ofR (z.mono fun _ y => holds_ofR (y.mono fun _ x => ⟨x⟩))))
theorem h_ret (h : Holds (f ρ) P) : Holds (outR (seqF (retF f) B ρ)) P := h_seq (holds_ofR (h.mono fun _ z => ⟨⟨z⟩⟩))
theorem h_if (h : Holds (t ρ) fun b => Holds (outR (seqO (if b then F ρ else G ρ) B)) P) : Holds (outR (seqF (ifF t F G) B ρ)) P := h_seq (holds_ofT (h.mono fun b z => by
  generalize (if b = true then F ρ else G ρ) = o at z ⊢
  induction o with
  | any k ih => exact holdsO_any.mpr fun j => ih j (holds_any.mp z j)
  | _ => exact ⟨z⟩))
variable {Q : Out → Prop}
theorem o_seq {o : Out} (h : HoldsO o fun o => HoldsO (seqO o B) Q) : HoldsO (seqO o B) Q := holds_seqO h
theorem o_let (h : Holds (f ρ) fun d => HoldsO (B (ρ.set i (some (false, d)))) Q) : HoldsO (seqF (letF i f) B ρ) Q := o_seq (holds_ofR (h.mono fun _ z => ⟨z⟩))
theorem o_letO (h : Holds (f ρ) fun d => HoldsO (B (ρ.set i (some (ownD d, d)))) Q) : HoldsO (seqF (letO i f) B ρ) Q := o_seq (holds_ofR (h.mono fun _ z => ⟨z⟩))
theorem o_par2 (h : Holds (f ρ) fun d => Holds (g ρ) fun e => HoldsO (B ((ρ.set i (some (ownO o1 d, d))).set j (some (ownO o2 e, e)))) Q) : HoldsO (seqF (par2 i j o1 o2 f g) B ρ) Q :=
  o_seq (holds_ofR (h.mono fun _ z => holds_ofR (z.mono fun _ y => ⟨y⟩)))
theorem o_if (h : Holds (t ρ) fun b => HoldsO (seqO (if b then F ρ else G ρ) B) Q) : HoldsO (seqF (ifF t F G) B ρ) Q := o_seq (holds_ofT (h.mono fun b z => by
  generalize (if b = true then F ρ else G ρ) = o at z ⊢
  induction o with
  | any k ih => exact holdsO_any.mpr fun j => ih j (holdsO_any.mp z j)
  | _ => exact ⟨z⟩))
theorem o_for {tg : Tg} {it : Rho → R (List D)} {ds : List D} (hi : it ρ = .ok ds) (h : HoldsO (forGo tg.bind F ds ρ) fun o => HoldsO (seqO o B) Q) : HoldsO (seqF (forF tg it F) B ρ) Q := by
  refine o_seq ?_
  simp only [s_for, hi, s_ofWok]
  exact h
theorem h_for {tg : Tg} {it : Rho → R (List D)} {ds : List D} (hi : it ρ = .ok ds) (h : HoldsO (forGo tg.bind F ds ρ) fun o => Holds (outR (seqO o B)) P) : Holds (outR (seqF (forF tg it F) B ρ)) P := by
  refine h_seq ?_
  simp only [s_for, hi, s_ofWok]
  exact h
theorem for_holds {α : Type} {enc : α → D} {bind : D → Rho → Option Rho} {body : Rho → Out} {Inv : Rho → Prop} : ∀ {l : List α},
    (∀ a ∈ l, ∀ ρ, Inv ρ → ∃ ρ1, bind (enc a) ρ = some ρ1 ∧ HoldsO (body ρ1) fun o => ∃ ρ2, o = .nx ρ2 ∧ Inv ρ2) → ∀ ρ, Inv ρ → HoldsO (forGo bind body (l.map enc) ρ) fun o => ∃ ρ', o = .nx ρ' ∧ Inv ρ'
  | [], _, ρ, h => ⟨⟨ρ, rfl, h⟩⟩
  | a :: l, st, ρ, h => by
    obtain ⟨ρ1, e1, e2⟩ := st a (by simp) ρ h
    simp only [List.map_cons, s_forC, e1]
    refine holds_loopO (e2.mono fun o ⟨ρ2, e3, e4⟩ => ?_)
    subst e3
    exact for_holds (l := l) (fun b hb => st b (List.mem_cons_of_mem _ hb)) ρ2 e4
end
theorem holds_eq {α : Type} {r r' : R α} {P : α → Prop} (h : Holds r' P) (e : r = r') : Holds r P := by rw [e]; exact h
theorem holds_ok {α : Type} {r : R α} {a : α} {P : α → Prop} (e : r = .ok a) (h : P a) : Holds r P := by rw [e]; exact ⟨h⟩
theorem holdsO_eq {o o' : Out} {P : Out → Prop} (h : HoldsO o' P) (e : o = o') : HoldsO o P := by rw [e]; exact h
theorem post_law {T : Tb} {O : AP} {H : Hp} {r : R D} {Q : VK} {E : XK} (h : LawOk r) (q : ∀ H', Q (.bl true) H') : PostF T O H r Q E := by
  have hp := h.h
  clear h
  induction r with
  | ok d =>
    have hp : d = .bl true := hp.h
    subst hp
    intro v H' _ hd
    simp only [Den] at hd
    subst hd
    exact q H'
  | err c fs => exact hp.noErr.elim
  | stuck => exact hp.noStuck.elim
  | any k ih => exact fun i => ih i (holds_any.mp hp i)
theorem LawOk.of {r : R D} (h : r = .ok (.bl true)) : LawOk r := ⟨holds_ok h rfl⟩
end BV
set_option Elab.async false
set_option linter.all false
set_option maxRecDepth 100000
set_option maxHeartbeats 4000000
namespace BV
open PySem L2
@[simp] theorem eq_free_free : opEq (.str ("free" : Str)) (.str ("free" : Str)) = .ok (.bl true) := by kernel_rfl
@[simp] theorem ne_free_free : opNe (.str ("free" : Str)) (.str ("free" : Str)) = .ok (.bl false) := by kernel_rfl
@[simp] theorem eq_free_ask : opEq (.str ("free" : Str)) (.str ("ask" : Str)) = .ok (.bl false) := by kernel_rfl
@[simp] theorem ne_free_ask : opNe (.str ("free" : Str)) (.str ("ask" : Str)) = .ok (.bl true) := by kernel_rfl
@[simp] theorem eq_free_hold : opEq (.str ("free" : Str)) (.str ("hold" : Str)) = .ok (.bl false) := by kernel_rfl
@[simp] theorem ne_free_hold : opNe (.str ("free" : Str)) (.str ("hold" : Str)) = .ok (.bl true) := by kernel_rfl
@[simp] theorem eq_free_pick : opEq (.str ("free" : Str)) (.str ("pick" : Str)) = .ok (.bl false) := by kernel_rfl
@[simp] theorem ne_free_pick : opNe (.str ("free" : Str)) (.str ("pick" : Str)) = .ok (.bl true) := by kernel_rfl
@[simp] theorem eq_free_take : opEq (.str ("free" : Str)) (.str ("take" : Str)) = .ok (.bl false) := by kernel_rfl
@[simp] theorem ne_free_take : opNe (.str ("free" : Str)) (.str ("take" : Str)) = .ok (.bl true) := by kernel_rfl
@[simp] theorem eq_free_tell : opEq (.str ("free" : Str)) (.str ("tell" : Str)) = .ok (.bl false) := by kernel_rfl
@[simp] theorem ne_free_tell : opNe (.str ("free" : Str)) (.str ("tell" : Str)) = .ok (.bl true) := by kernel_rfl
@[simp] theorem eq_free_leave : opEq (.str ("free" : Str)) (.str ("leave" : Str)) = .ok (.bl false) := by kernel_rfl
@[simp] theorem ne_free_leave : opNe (.str ("free" : Str)) (.str ("leave" : Str)) = .ok (.bl true) := by kernel_rfl
@[simp] theorem eq_free_other : opEq (.str ("free" : Str)) (.str ("other" : Str)) = .ok (.bl false) := by kernel_rfl
@[simp] theorem ne_free_other : opNe (.str ("free" : Str)) (.str ("other" : Str)) = .ok (.bl true) := by kernel_rfl
@[simp] theorem eq_free_lesser : opEq (.str ("free" : Str)) (.str ("lesser" : Str)) = .ok (.bl false) := by kernel_rfl
@[simp] theorem ne_free_lesser : opNe (.str ("free" : Str)) (.str ("lesser" : Str)) = .ok (.bl true) := by kernel_rfl
@[simp] theorem eq_free_stay : opEq (.str ("free" : Str)) (.str ("stay" : Str)) = .ok (.bl false) := by kernel_rfl
@[simp] theorem ne_free_stay : opNe (.str ("free" : Str)) (.str ("stay" : Str)) = .ok (.bl true) := by kernel_rfl
@[simp] theorem eq_free_yield : opEq (.str ("free" : Str)) (.str ("yield" : Str)) = .ok (.bl false) := by kernel_rfl
@[simp] theorem ne_free_yield : opNe (.str ("free" : Str)) (.str ("yield" : Str)) = .ok (.bl true) := by kernel_rfl
@[simp] theorem eq_free_answer : opEq (.str ("free" : Str)) (.str ("answer" : Str)) = .ok (.bl false) := by kernel_rfl
@[simp] theorem ne_free_answer : opNe (.str ("free" : Str)) (.str ("answer" : Str)) = .ok (.bl true) := by kernel_rfl
@[simp] theorem eq_free_greater : opEq (.str ("free" : Str)) (.str ("greater" : Str)) = .ok (.bl false) := by kernel_rfl
@[simp] theorem ne_free_greater : opNe (.str ("free" : Str)) (.str ("greater" : Str)) = .ok (.bl true) := by kernel_rfl
@[simp] theorem eq_free_known : opEq (.str ("free" : Str)) (.str ("known" : Str)) = .ok (.bl false) := by kernel_rfl
@[simp] theorem ne_free_known : opNe (.str ("free" : Str)) (.str ("known" : Str)) = .ok (.bl true) := by kernel_rfl
@[simp] theorem eq_free_led : opEq (.str ("free" : Str)) (.str ("led" : Str)) = .ok (.bl false) := by kernel_rfl
@[simp] theorem ne_free_led : opNe (.str ("free" : Str)) (.str ("led" : Str)) = .ok (.bl true) := by kernel_rfl
@[simp] theorem eq_ask_free : opEq (.str ("ask" : Str)) (.str ("free" : Str)) = .ok (.bl false) := by kernel_rfl
@[simp] theorem ne_ask_free : opNe (.str ("ask" : Str)) (.str ("free" : Str)) = .ok (.bl true) := by kernel_rfl
@[simp] theorem eq_ask_ask : opEq (.str ("ask" : Str)) (.str ("ask" : Str)) = .ok (.bl true) := by kernel_rfl
@[simp] theorem ne_ask_ask : opNe (.str ("ask" : Str)) (.str ("ask" : Str)) = .ok (.bl false) := by kernel_rfl
@[simp] theorem eq_ask_hold : opEq (.str ("ask" : Str)) (.str ("hold" : Str)) = .ok (.bl false) := by kernel_rfl
@[simp] theorem ne_ask_hold : opNe (.str ("ask" : Str)) (.str ("hold" : Str)) = .ok (.bl true) := by kernel_rfl
@[simp] theorem eq_ask_pick : opEq (.str ("ask" : Str)) (.str ("pick" : Str)) = .ok (.bl false) := by kernel_rfl
@[simp] theorem ne_ask_pick : opNe (.str ("ask" : Str)) (.str ("pick" : Str)) = .ok (.bl true) := by kernel_rfl
@[simp] theorem eq_ask_take : opEq (.str ("ask" : Str)) (.str ("take" : Str)) = .ok (.bl false) := by kernel_rfl
@[simp] theorem ne_ask_take : opNe (.str ("ask" : Str)) (.str ("take" : Str)) = .ok (.bl true) := by kernel_rfl
@[simp] theorem eq_ask_tell : opEq (.str ("ask" : Str)) (.str ("tell" : Str)) = .ok (.bl false) := by kernel_rfl
@[simp] theorem ne_ask_tell : opNe (.str ("ask" : Str)) (.str ("tell" : Str)) = .ok (.bl true) := by kernel_rfl
@[simp] theorem eq_ask_leave : opEq (.str ("ask" : Str)) (.str ("leave" : Str)) = .ok (.bl false) := by kernel_rfl
@[simp] theorem ne_ask_leave : opNe (.str ("ask" : Str)) (.str ("leave" : Str)) = .ok (.bl true) := by kernel_rfl
@[simp] theorem eq_ask_other : opEq (.str ("ask" : Str)) (.str ("other" : Str)) = .ok (.bl false) := by kernel_rfl
@[simp] theorem ne_ask_other : opNe (.str ("ask" : Str)) (.str ("other" : Str)) = .ok (.bl true) := by kernel_rfl
@[simp] theorem eq_ask_lesser : opEq (.str ("ask" : Str)) (.str ("lesser" : Str)) = .ok (.bl false) := by kernel_rfl
@[simp] theorem ne_ask_lesser : opNe (.str ("ask" : Str)) (.str ("lesser" : Str)) = .ok (.bl true) := by kernel_rfl
@[simp] theorem eq_ask_stay : opEq (.str ("ask" : Str)) (.str ("stay" : Str)) = .ok (.bl false) := by kernel_rfl
@[simp] theorem ne_ask_stay : opNe (.str ("ask" : Str)) (.str ("stay" : Str)) = .ok (.bl true) := by kernel_rfl
@[simp] theorem eq_ask_yield : opEq (.str ("ask" : Str)) (.str ("yield" : Str)) = .ok (.bl false) := by kernel_rfl
@[simp] theorem ne_ask_yield : opNe (.str ("ask" : Str)) (.str ("yield" : Str)) = .ok (.bl true) := by kernel_rfl
@[simp] theorem eq_ask_answer : opEq (.str ("ask" : Str)) (.str ("answer" : Str)) = .ok (.bl false) := by kernel_rfl
@[simp] theorem ne_ask_answer : opNe (.str ("ask" : Str)) (.str ("answer" : Str)) = .ok (.bl true) := by kernel_rfl
@[simp] theorem eq_ask_greater : opEq (.str ("ask" : Str)) (.str ("greater" : Str)) = .ok (.bl false) := by kernel_rfl
@[simp] theorem ne_ask_greater : opNe (.str ("ask" : Str)) (.str ("greater" : Str)) = .ok (.bl true) := by kernel_rfl
@[simp] theorem eq_ask_known : opEq (.str ("ask" : Str)) (.str ("known" : Str)) = .ok (.bl false) := by kernel_rfl
@[simp] theorem ne_ask_known : opNe (.str ("ask" : Str)) (.str ("known" : Str)) = .ok (.bl true) := by kernel_rfl
@[simp] theorem eq_ask_led : opEq (.str ("ask" : Str)) (.str ("led" : Str)) = .ok (.bl false) := by kernel_rfl
@[simp] theorem ne_ask_led : opNe (.str ("ask" : Str)) (.str ("led" : Str)) = .ok (.bl true) := by kernel_rfl
@[simp] theorem eq_hold_free : opEq (.str ("hold" : Str)) (.str ("free" : Str)) = .ok (.bl false) := by kernel_rfl
@[simp] theorem ne_hold_free : opNe (.str ("hold" : Str)) (.str ("free" : Str)) = .ok (.bl true) := by kernel_rfl
@[simp] theorem eq_hold_ask : opEq (.str ("hold" : Str)) (.str ("ask" : Str)) = .ok (.bl false) := by kernel_rfl
@[simp] theorem ne_hold_ask : opNe (.str ("hold" : Str)) (.str ("ask" : Str)) = .ok (.bl true) := by kernel_rfl
@[simp] theorem eq_hold_hold : opEq (.str ("hold" : Str)) (.str ("hold" : Str)) = .ok (.bl true) := by kernel_rfl
@[simp] theorem ne_hold_hold : opNe (.str ("hold" : Str)) (.str ("hold" : Str)) = .ok (.bl false) := by kernel_rfl
@[simp] theorem eq_hold_pick : opEq (.str ("hold" : Str)) (.str ("pick" : Str)) = .ok (.bl false) := by kernel_rfl
@[simp] theorem ne_hold_pick : opNe (.str ("hold" : Str)) (.str ("pick" : Str)) = .ok (.bl true) := by kernel_rfl
@[simp] theorem eq_hold_take : opEq (.str ("hold" : Str)) (.str ("take" : Str)) = .ok (.bl false) := by kernel_rfl
@[simp] theorem ne_hold_take : opNe (.str ("hold" : Str)) (.str ("take" : Str)) = .ok (.bl true) := by kernel_rfl
@[simp] theorem eq_hold_tell : opEq (.str ("hold" : Str)) (.str ("tell" : Str)) = .ok (.bl false) := by kernel_rfl
@[simp] theorem ne_hold_tell : opNe (.str ("hold" : Str)) (.str ("tell" : Str)) = .ok (.bl true) := by kernel_rfl
@[simp] theorem eq_hold_leave : opEq (.str ("hold" : Str)) (.str ("leave" : Str)) = .ok (.bl false) := by kernel_rfl
@[simp] theorem ne_hold_leave : opNe (.str ("hold" : Str)) (.str ("leave" : Str)) = .ok (.bl true) := by kernel_rfl
@[simp] theorem eq_hold_other : opEq (.str ("hold" : Str)) (.str ("other" : Str)) = .ok (.bl false) := by kernel_rfl
@[simp] theorem ne_hold_other : opNe (.str ("hold" : Str)) (.str ("other" : Str)) = .ok (.bl true) := by kernel_rfl
@[simp] theorem eq_hold_lesser : opEq (.str ("hold" : Str)) (.str ("lesser" : Str)) = .ok (.bl false) := by kernel_rfl
@[simp] theorem ne_hold_lesser : opNe (.str ("hold" : Str)) (.str ("lesser" : Str)) = .ok (.bl true) := by kernel_rfl
@[simp] theorem eq_hold_stay : opEq (.str ("hold" : Str)) (.str ("stay" : Str)) = .ok (.bl false) := by kernel_rfl
@[simp] theorem ne_hold_stay : opNe (.str ("hold" : Str)) (.str ("stay" : Str)) = .ok (.bl true) := by kernel_rfl
@[simp] theorem eq_hold_yield : opEq (.str ("hold" : Str)) (.str ("yield" : Str)) = .ok (.bl false) := by kernel_rfl
@[simp] theorem ne_hold_yield : opNe (.str ("hold" : Str)) (.str ("yield" : Str)) = .ok (.bl true) := by kernel_rfl
@[simp] theorem eq_hold_answer : opEq (.str ("hold" : Str)) (.str ("answer" : Str)) = .ok (.bl false) := by kernel_rfl
@[simp] theorem ne_hold_answer : opNe (.str ("hold" : Str)) (.str ("answer" : Str)) = .ok (.bl true) := by kernel_rfl
@[simp] theorem eq_hold_greater : opEq (.str ("hold" : Str)) (.str ("greater" : Str)) = .ok (.bl false) := by kernel_rfl
@[simp] theorem ne_hold_greater : opNe (.str ("hold" : Str)) (.str ("greater" : Str)) = .ok (.bl true) := by kernel_rfl
@[simp] theorem eq_hold_known : opEq (.str ("hold" : Str)) (.str ("known" : Str)) = .ok (.bl false) := by kernel_rfl
@[simp] theorem ne_hold_known : opNe (.str ("hold" : Str)) (.str ("known" : Str)) = .ok (.bl true) := by kernel_rfl
@[simp] theorem eq_hold_led : opEq (.str ("hold" : Str)) (.str ("led" : Str)) = .ok (.bl false) := by kernel_rfl
@[simp] theorem ne_hold_led : opNe (.str ("hold" : Str)) (.str ("led" : Str)) = .ok (.bl true) := by kernel_rfl
@[simp] theorem eq_pick_free : opEq (.str ("pick" : Str)) (.str ("free" : Str)) = .ok (.bl false) := by kernel_rfl
@[simp] theorem ne_pick_free : opNe (.str ("pick" : Str)) (.str ("free" : Str)) = .ok (.bl true) := by kernel_rfl
@[simp] theorem eq_pick_ask : opEq (.str ("pick" : Str)) (.str ("ask" : Str)) = .ok (.bl false) := by kernel_rfl
@[simp] theorem ne_pick_ask : opNe (.str ("pick" : Str)) (.str ("ask" : Str)) = .ok (.bl true) := by kernel_rfl
@[simp] theorem eq_pick_hold : opEq (.str ("pick" : Str)) (.str ("hold" : Str)) = .ok (.bl false) := by kernel_rfl
@[simp] theorem ne_pick_hold : opNe (.str ("pick" : Str)) (.str ("hold" : Str)) = .ok (.bl true) := by kernel_rfl
@[simp] theorem eq_pick_pick : opEq (.str ("pick" : Str)) (.str ("pick" : Str)) = .ok (.bl true) := by kernel_rfl
@[simp] theorem ne_pick_pick : opNe (.str ("pick" : Str)) (.str ("pick" : Str)) = .ok (.bl false) := by kernel_rfl
@[simp] theorem eq_pick_take : opEq (.str ("pick" : Str)) (.str ("take" : Str)) = .ok (.bl false) := by kernel_rfl
@[simp] theorem ne_pick_take : opNe (.str ("pick" : Str)) (.str ("take" : Str)) = .ok (.bl true) := by kernel_rfl
@[simp] theorem eq_pick_tell : opEq (.str ("pick" : Str)) (.str ("tell" : Str)) = .ok (.bl false) := by kernel_rfl
@[simp] theorem ne_pick_tell : opNe (.str ("pick" : Str)) (.str ("tell" : Str)) = .ok (.bl true) := by kernel_rfl
@[simp] theorem eq_pick_leave : opEq (.str ("pick" : Str)) (.str ("leave" : Str)) = .ok (.bl false) := by kernel_rfl
@[simp] theorem ne_pick_leave : opNe (.str ("pick" : Str)) (.str ("leave" : Str)) = .ok (.bl true) := by kernel_rfl
@[simp] theorem eq_pick_other : opEq (.str ("pick" : Str)) (.str ("other" : Str)) = .ok (.bl false) := by kernel_rfl
@[simp] theorem ne_pick_other : opNe (.str ("pick" : Str)) (.str ("other" : Str)) = .ok (.bl true) := by kernel_rfl
@[simp] theorem eq_pick_lesser : opEq (.str ("pick" : Str)) (.str ("lesser" : Str)) = .ok (.bl false) := by kernel_rfl
@[simp] theorem ne_pick_lesser : opNe (.str ("pick" : Str)) (.str ("lesser" : Str)) = .ok (.bl true) := by kernel_rfl
@[simp] theorem eq_pick_stay : opEq (.str ("pick" : Str)) (.str ("stay" : Str)) = .ok (.bl false) := by kernel_rfl
@[simp] theorem ne_pick_stay : opNe (.str ("pick" : Str)) (.str ("stay" : Str)) = .ok (.bl true) := by kernel_rfl
@[simp] theorem eq_pick_yield : opEq (.str ("pick" : Str)) (.str ("yield" : Str)) = .ok (.bl false) := by kernel_rfl
@[simp] theorem ne_pick_yield : opNe (.str ("pick" : Str)) (.str ("yield" : Str)) = .ok (.bl true) := by kernel_rfl
@[simp] theorem eq_pick_answer : opEq (.str ("pick" : Str)) (.str ("answer" : Str)) = .ok (.bl false) := by kernel_rfl
@[simp] theorem ne_pick_answer : opNe (.str ("pick" : Str)) (.str ("answer" : Str)) = .ok (.bl true) := by kernel_rfl
@[simp] theorem eq_pick_greater : opEq (.str ("pick" : Str)) (.str ("greater" : Str)) = .ok (.bl false) := by kernel_rfl
@[simp] theorem ne_pick_greater : opNe (.str ("pick" : Str)) (.str ("greater" : Str)) = .ok (.bl true) := by kernel_rfl
@[simp] theorem eq_pick_known : opEq (.str ("pick" : Str)) (.str ("known" : Str)) = .ok (.bl false) := by kernel_rfl
@[simp] theorem ne_pick_known : opNe (.str ("pick" : Str)) (.str ("known" : Str)) = .ok (.bl true) := by kernel_rfl
@[simp] theorem eq_pick_led : opEq (.str ("pick" : Str)) (.str ("led" : Str)) = .ok (.bl false) := by kernel_rfl
@[simp] theorem ne_pick_led : opNe (.str ("pick" : Str)) (.str ("led" : Str)) = .ok (.bl true) := by kernel_rfl
@[simp] theorem eq_take_free : opEq (.str ("take" : Str)) (.str ("free" : Str)) = .ok (.bl false) := by kernel_rfl
@[simp] theorem ne_take_free : opNe (.str ("take" : Str)) (.str ("free" : Str)) = .ok (.bl true) := by kernel_rfl
@[simp] theorem eq_take_ask : opEq (.str ("take" : Str)) (.str ("ask" : Str)) = .ok (.bl false) := by kernel_rfl
@[simp] theorem ne_take_ask : opNe (.str ("take" : Str)) (.str ("ask" : Str)) = .ok (.bl true) := by kernel_rfl
@[simp] theorem eq_take_hold : opEq (.str ("take" : Str)) (.str ("hold" : Str)) = .ok (.bl false) := by kernel_rfl
@[simp] theorem ne_take_hold : opNe (.str ("take" : Str)) (.str ("hold" : Str)) = .ok (.bl true) := by kernel_rfl
@[simp] theorem eq_take_pick : opEq (.str ("take" : Str)) (.str ("pick" : Str)) = .ok (.bl false) := by kernel_rfl
@[simp] theorem ne_take_pick : opNe (.str ("take" : Str)) (.str ("pick" : Str)) = .ok (.bl true) := by kernel_rfl
@[simp] theorem eq_take_take : opEq (.str ("take" : Str)) (.str ("take" : Str)) = .ok (.bl true) := by kernel_rfl
@[simp] theorem ne_take_take : opNe (.str ("take" : Str)) (.str ("take" : Str)) = .ok (.bl false) := by kernel_rfl
@[simp] theorem eq_take_tell : opEq (.str ("take" : Str)) (.str ("tell" : Str)) = .ok (.bl false) := by kernel_rfl
@[simp] theorem ne_take_tell : opNe (.str ("take" : Str)) (.str ("tell" : Str)) = .ok (.bl true) := by kernel_rfl
@[simp] theorem eq_take_leave : opEq (.str ("take" : Str)) (.str ("leave" : Str)) = .ok (.bl false) := by kernel_rfl
@[simp] theorem ne_take_leave : opNe (.str ("take" : Str)) (.str ("leave" : Str)) = .ok (.bl true) := by kernel_rfl
@[simp] theorem eq_take_other : opEq (.str ("take" : Str)) (.str ("other" : Str)) = .ok (.bl false) := by kernel_rfl
@[simp] theorem ne_take_other : opNe (.str ("take" : Str)) (.str ("other" : Str)) = .ok (.bl true) := by kernel_rfl
@[simp] theorem eq_take_lesser : opEq (.str ("take" : Str)) (.str ("lesser" : Str)) = .ok (.bl false) := by kernel_rfl
@[simp] theorem ne_take_lesser : opNe (.str ("take" : Str)) (.str ("lesser" : Str)) = .ok (.bl true) := by kernel_rfl
@[simp] theorem eq_take_stay : opEq (.str ("take" : Str)) (.str ("stay" : Str)) = .ok (.bl false) := by kernel_rfl
@[simp] theorem ne_take_stay : opNe (.str ("take" : Str)) (.str ("stay" : Str)) = .ok (.bl true) := by kernel_rfl
@[simp] theorem eq_take_yield : opEq (.str ("take" : Str)) (.str ("yield" : Str)) = .ok (.bl false) := by kernel_rfl
@[simp] theorem ne_take_yield : opNe (.str ("take" : Str)) (.str ("yield" : Str)) = .ok (.bl true) := by kernel_rfl
@[simp] theorem eq_take_answer : opEq (.str ("take" : Str)) (.str ("answer" : Str)) = .ok (.bl false) := by kernel_rfl
@[simp] theorem ne_take_answer : opNe (.str ("take" : Str)) (.str ("answer" : Str)) = .ok (.bl true) := by kernel_rfl
@[simp] theorem eq_take_greater : opEq (.str ("take" : Str)) (.str ("greater" : Str)) = .ok (.bl false) := by kernel_rfl
@[simp] theorem ne_take_greater : opNe (.str ("take" : Str)) (.str ("greater" : Str)) = .ok (.bl true) := by kernel_rfl
@[simp] theorem eq_take_known : opEq (.str ("take" : Str)) (.str ("known" : Str)) = .ok (.bl false) := by kernel_rfl
@[simp] theorem ne_take_known : opNe (.str ("take" : Str)) (.str ("known" : Str)) = .ok (.bl true) := by kernel_rfl
@[simp] theorem eq_take_led : opEq (.str ("take" : Str)) (.str ("led" : Str)) = .ok (.bl false) := by kernel_rfl
@[simp] theorem ne_take_led : opNe (.str ("take" : Str)) (.str ("led" : Str)) = .ok (.bl true) := by kernel_rfl
@[simp] theorem eq_tell_free : opEq (.str ("tell" : Str)) (.str ("free" : Str)) = .ok (.bl false) := by kernel_rfl
@[simp] theorem ne_tell_free : opNe (.str ("tell" : Str)) (.str ("free" : Str)) = .ok (.bl true) := by kernel_rfl
@[simp] theorem eq_tell_ask : opEq (.str ("tell" : Str)) (.str ("ask" : Str)) = .ok (.bl false) := by kernel_rfl
@[simp] theorem ne_tell_ask : opNe (.str ("tell" : Str)) (.str ("ask" : Str)) = .ok (.bl true) := by kernel_rfl
@[simp] theorem eq_tell_hold : opEq (.str ("tell" : Str)) (.str ("hold" : Str)) = .ok (.bl false) := by kernel_rfl
@[simp] theorem ne_tell_hold : opNe (.str ("tell" : Str)) (.str ("hold" : Str)) = .ok (.bl true) := by kernel_rfl
@[simp] theorem eq_tell_pick : opEq (.str ("tell" : Str)) (.str ("pick" : Str)) = .ok (.bl false) := by kernel_rfl
@[simp] theorem ne_tell_pick : opNe (.str ("tell" : Str)) (.str ("pick" : Str)) = .ok (.bl true) := by kernel_rfl
@[simp] theorem eq_tell_take : opEq (.str ("tell" : Str)) (.str ("take" : Str)) = .ok (.bl false) := by kernel_rfl
@[simp] theorem ne_tell_take : opNe (.str ("tell" : Str)) (.str ("take" : Str)) = .ok (.bl true) := by kernel_rfl
@[simp] theorem eq_tell_tell : opEq (.str ("tell" : Str)) (.str ("tell" : Str)) = .ok (.bl true) := by kernel_rfl
@[simp] theorem ne_tell_tell : opNe (.str ("tell" : Str)) (.str ("tell" : Str)) = .ok (.bl false) := by kernel_rfl
@[simp] theorem eq_tell_leave : opEq (.str ("tell" : Str)) (.str ("leave" : Str)) = .ok (.bl false) := by kernel_rfl
@[simp] theorem ne_tell_leave : opNe (.str ("tell" : Str)) (.str ("leave" : Str)) = .ok (.bl true) := by kernel_rfl
@[simp] theorem eq_tell_other : opEq (.str ("tell" : Str)) (.str ("other" : Str)) = .ok (.bl false) := by kernel_rfl
@[simp] theorem ne_tell_other : opNe (.str ("tell" : Str)) (.str ("other" : Str)) = .ok (.bl true) := by kernel_rfl
@[simp] theorem eq_tell_lesser : opEq (.str ("tell" : Str)) (.str ("lesser" : Str)) = .ok (.bl false) := by kernel_rfl
@[simp] theorem ne_tell_lesser : opNe (.str ("tell" : Str)) (.str ("lesser" : Str)) = .ok (.bl true) := by kernel_rfl
@[simp] theorem eq_tell_stay : opEq (.str ("tell" : Str)) (.str ("stay" : Str)) = .ok (.bl false) := by kernel_rfl
@[simp] theorem ne_tell_stay : opNe (.str ("tell" : Str)) (.str ("stay" : Str)) = .ok (.bl true) := by kernel_rfl
@[simp] theorem eq_tell_yield : opEq (.str ("tell" : Str)) (.str ("yield" : Str)) = .ok (.bl false) := by kernel_rfl
@[simp] theorem ne_tell_yield : opNe (.str ("tell" : Str)) (.str ("yield" : Str)) = .ok (.bl true) := by kernel_rfl
@[simp] theorem eq_tell_answer : opEq (.str ("tell" : Str)) (.str ("answer" : Str)) = .ok (.bl false) := by kernel_rfl
@[simp] theorem ne_tell_answer : opNe (.str ("tell" : Str)) (.str ("answer" : Str)) = .ok (.bl true) := by kernel_rfl
@[simp] theorem eq_tell_greater : opEq (.str ("tell" : Str)) (.str ("greater" : Str)) = .ok (.bl false) := by kernel_rfl
@[simp] theorem ne_tell_greater : opNe (.str ("tell" : Str)) (.str ("greater" : Str)) = .ok (.bl true) := by kernel_rfl
@[simp] theorem eq_tell_known : opEq (.str ("tell" : Str)) (.str ("known" : Str)) = .ok (.bl false) := by kernel_rfl
@[simp] theorem ne_tell_known : opNe (.str ("tell" : Str)) (.str ("known" : Str)) = .ok (.bl true) := by kernel_rfl
@[simp] theorem eq_tell_led : opEq (.str ("tell" : Str)) (.str ("led" : Str)) = .ok (.bl false) := by kernel_rfl
@[simp] theorem ne_tell_led : opNe (.str ("tell" : Str)) (.str ("led" : Str)) = .ok (.bl true) := by kernel_rfl
@[simp] theorem eq_leave_free : opEq (.str ("leave" : Str)) (.str ("free" : Str)) = .ok (.bl false) := by kernel_rfl
@[simp] theorem ne_leave_free : opNe (.str ("leave" : Str)) (.str ("free" : Str)) = .ok (.bl true) := by kernel_rfl
@[simp] theorem eq_leave_ask : opEq (.str ("leave" : Str)) (.str ("ask" : Str)) = .ok (.bl false) := by kernel_rfl
@[simp] theorem ne_leave_ask : opNe (.str ("leave" : Str)) (.str ("ask" : Str)) = .ok (.bl true) := by kernel_rfl
@[simp] theorem eq_leave_hold : opEq (.str ("leave" : Str)) (.str ("hold" : Str)) = .ok (.bl false) := by kernel_rfl
@[simp] theorem ne_leave_hold : opNe (.str ("leave" : Str)) (.str ("hold" : Str)) = .ok (.bl true) := by kernel_rfl
@[simp] theorem eq_leave_pick : opEq (.str ("leave" : Str)) (.str ("pick" : Str)) = .ok (.bl false) := by kernel_rfl
@[simp] theorem ne_leave_pick : opNe (.str ("leave" : Str)) (.str ("pick" : Str)) = .ok (.bl true) := by kernel_rfl
@[simp] theorem eq_leave_take : opEq (.str ("leave" : Str)) (.str ("take" : Str)) = .ok (.bl false) := by kernel_rfl
@[simp] theorem ne_leave_take : opNe (.str ("leave" : Str)) (.str ("take" : Str)) = .ok (.bl true) := by kernel_rfl
@[simp] theorem eq_leave_tell : opEq (.str ("leave" : Str)) (.str ("tell" : Str)) = .ok (.bl false) := by kernel_rfl
@[simp] theorem ne_leave_tell : opNe (.str ("leave" : Str)) (.str ("tell" : Str)) = .ok (.bl true) := by kernel_rfl
@[simp] theorem eq_leave_leave : opEq (.str ("leave" : Str)) (.str ("leave" : Str)) = .ok (.bl true) := by kernel_rfl
@[simp] theorem ne_leave_leave : opNe (.str ("leave" : Str)) (.str ("leave" : Str)) = .ok (.bl false) := by kernel_rfl
@[simp] theorem eq_leave_other : opEq (.str ("leave" : Str)) (.str ("other" : Str)) = .ok (.bl false) := by kernel_rfl
@[simp] theorem ne_leave_other : opNe (.str ("leave" : Str)) (.str ("other" : Str)) = .ok (.bl true) := by kernel_rfl
@[simp] theorem eq_leave_lesser : opEq (.str ("leave" : Str)) (.str ("lesser" : Str)) = .ok (.bl false) := by kernel_rfl
@[simp] theorem ne_leave_lesser : opNe (.str ("leave" : Str)) (.str ("lesser" : Str)) = .ok (.bl true) := by kernel_rfl
@[simp] theorem eq_leave_stay : opEq (.str ("leave" : Str)) (.str ("stay" : Str)) = .ok (.bl false) := by kernel_rfl
@[simp] theorem ne_leave_stay : opNe (.str ("leave" : Str)) (.str ("stay" : Str)) = .ok (.bl true) := by kernel_rfl
@[simp] theorem eq_leave_yield : opEq (.str ("leave" : Str)) (.str ("yield" : Str)) = .ok (.bl false) := by kernel_rfl
@[simp] theorem ne_leave_yield : opNe (.str ("leave" : Str)) (.str ("yield" : Str)) = .ok (.bl true) := by kernel_rfl
@[simp] theorem eq_leave_answer : opEq (.str ("leave" : Str)) (.str ("answer" : Str)) = .ok (.bl false) := by kernel_rfl
@[simp] theorem ne_leave_answer : opNe (.str ("leave" : Str)) (.str ("answer" : Str)) = .ok (.bl true) := by kernel_rfl
@[simp] theorem eq_leave_greater : opEq (.str ("leave" : Str)) (.str ("greater" : Str)) = .ok (.bl false) := by kernel_rfl
@[simp] theorem ne_leave_greater : opNe (.str ("leave" : Str)) (.str ("greater" : Str)) = .ok (.bl true) := by kernel_rfl
@[simp] theorem eq_leave_known : opEq (.str ("leave" : Str)) (.str ("known" : Str)) = .ok (.bl false) := by kernel_rfl
@[simp] theorem ne_leave_known : opNe (.str ("leave" : Str)) (.str ("known" : Str)) = .ok (.bl true) := by kernel_rfl
@[simp] theorem eq_leave_led : opEq (.str ("leave" : Str)) (.str ("led" : Str)) = .ok (.bl false) := by kernel_rfl
@[simp] theorem ne_leave_led : opNe (.str ("leave" : Str)) (.str ("led" : Str)) = .ok (.bl true) := by kernel_rfl
@[simp] theorem eq_other_free : opEq (.str ("other" : Str)) (.str ("free" : Str)) = .ok (.bl false) := by kernel_rfl
@[simp] theorem ne_other_free : opNe (.str ("other" : Str)) (.str ("free" : Str)) = .ok (.bl true) := by kernel_rfl
@[simp] theorem eq_other_ask : opEq (.str ("other" : Str)) (.str ("ask" : Str)) = .ok (.bl false) := by kernel_rfl
@[simp] theorem ne_other_ask : opNe (.str ("other" : Str)) (.str ("ask" : Str)) = .ok (.bl true) := by kernel_rfl
@[simp] theorem eq_other_hold : opEq (.str ("other" : Str)) (.str ("hold" : Str)) = .ok (.bl false) := by kernel_rfl
@[simp] theorem ne_other_hold : opNe (.str ("other" : Str)) (.str ("hold" : Str)) = .ok (.bl true) := by kernel_rfl
@[simp] theorem eq_other_pick : opEq (.str ("other" : Str)) (.str ("pick" : Str)) = .ok (.bl false) := by kernel_rfl
@[simp] theorem ne_other_pick : opNe (.str ("other" : Str)) (.str ("pick" : Str)) = .ok (.bl true) := by kernel_rfl
@[simp] theorem eq_other_take : opEq (.str ("other" : Str)) (.str ("take" : Str)) = .ok (.bl false) := by kernel_rfl
@[simp] theorem ne_other_take : opNe (.str ("other" : Str)) (.str ("take" : Str)) = .ok (.bl true) := by kernel_rfl
@[simp] theorem eq_other_tell : opEq (.str ("other" : Str)) (.str ("tell" : Str)) = .ok (.bl false) := by kernel_rfl
@[simp] theorem ne_other_tell : opNe (.str ("other" : Str)) (.str ("tell" : Str)) = .ok (.bl true) := by kernel_rfl
@[simp] theorem eq_other_leave : opEq (.str ("other" : Str)) (.str ("leave" : Str)) = .ok (.bl false) := by kernel_rfl
@[simp] theorem ne_other_leave : opNe (.str ("other" : Str)) (.str ("leave" : Str)) = .ok (.bl true) := by kernel_rfl
@[simp] theorem eq_other_other : opEq (.str ("other" : Str)) (.str ("other" : Str)) = .ok (.bl true) := by kernel_rfl
@[simp] theorem ne_other_other : opNe (.str ("other" : Str)) (.str ("other" : Str)) = .ok (.bl false) := by kernel_rfl
@[simp] theorem eq_other_lesser : opEq (.str ("other" : Str)) (.str ("lesser" : Str)) = .ok (.bl false) := by kernel_rfl
@[simp] theorem ne_other_lesser : opNe (.str ("other" : Str)) (.str ("lesser" : Str)) = .ok (.bl true) := by kernel_rfl
@[simp] theorem eq_other_stay : opEq (.str ("other" : Str)) (.str ("stay" : Str)) = .ok (.bl false) := by kernel_rfl
@[simp] theorem ne_other_stay : opNe (.str ("other" : Str)) (.str ("stay" : Str)) = .ok (.bl true) := by kernel_rfl
@[simp] theorem eq_other_yield : opEq (.str ("other" : Str)) (.str ("yield" : Str)) = .ok (.bl false) := by kernel_rfl
@[simp] theorem ne_other_yield : opNe (.str ("other" : Str)) (.str ("yield" : Str)) = .ok (.bl true) := by kernel_rfl
@[simp] theorem eq_other_answer : opEq (.str ("other" : Str)) (.str ("answer" : Str)) = .ok (.bl false) := by kernel_rfl
@[simp] theorem ne_other_answer : opNe (.str ("other" : Str)) (.str ("answer" : Str)) = .ok (.bl true) := by kernel_rfl
@[simp] theorem eq_other_greater : opEq (.str ("other" : Str)) (.str ("greater" : Str)) = .ok (.bl false) := by kernel_rfl
@[simp] theorem ne_other_greater : opNe (.str ("other" : Str)) (.str ("greater" : Str)) = .ok (.bl true) := by kernel_rfl
@[simp] theorem eq_other_known : opEq (.str ("other" : Str)) (.str ("known" : Str)) = .ok (.bl false) := by kernel_rfl
@[simp] theorem ne_other_known : opNe (.str ("other" : Str)) (.str ("known" : Str)) = .ok (.bl true) := by kernel_rfl
@[simp] theorem eq_other_led : opEq (.str ("other" : Str)) (.str ("led" : Str)) = .ok (.bl false) := by kernel_rfl
@[simp] theorem ne_other_led : opNe (.str ("other" : Str)) (.str ("led" : Str)) = .ok (.bl true) := by kernel_rfl
@[simp] theorem eq_lesser_free : opEq (.str ("lesser" : Str)) (.str ("free" : Str)) = .ok (.bl false) := by kernel_rfl
@[simp] theorem ne_lesser_free : opNe (.str ("lesser" : Str)) (.str ("free" : Str)) = .ok (.bl true) := by kernel_rfl
@[simp] theorem eq_lesser_ask : opEq (.str ("lesser" : Str)) (.str ("ask" : Str)) = .ok (.bl false) := by kernel_rfl
@[simp] theorem ne_lesser_ask : opNe (.str ("lesser" : Str)) (.str ("ask" : Str)) = .ok (.bl true) := by kernel_rfl
@[simp] theorem eq_lesser_hold : opEq (.str ("lesser" : Str)) (.str ("hold" : Str)) = .ok (.bl false) := by kernel_rfl
@[simp] theorem ne_lesser_hold : opNe (.str ("lesser" : Str)) (.str ("hold" : Str)) = .ok (.bl true) := by kernel_rfl
@[simp] theorem eq_lesser_pick : opEq (.str ("lesser" : Str)) (.str ("pick" : Str)) = .ok (.bl false) := by kernel_rfl
@[simp] theorem ne_lesser_pick : opNe (.str ("lesser" : Str)) (.str ("pick" : Str)) = .ok (.bl true) := by kernel_rfl
@[simp] theorem eq_lesser_take : opEq (.str ("lesser" : Str)) (.str ("take" : Str)) = .ok (.bl false) := by kernel_rfl
@[simp] theorem ne_lesser_take : opNe (.str ("lesser" : Str)) (.str ("take" : Str)) = .ok (.bl true) := by kernel_rfl
@[simp] theorem eq_lesser_tell : opEq (.str ("lesser" : Str)) (.str ("tell" : Str)) = .ok (.bl false) := by kernel_rfl
@[simp] theorem ne_lesser_tell : opNe (.str ("lesser" : Str)) (.str ("tell" : Str)) = .ok (.bl true) := by kernel_rfl
@[simp] theorem eq_lesser_leave : opEq (.str ("lesser" : Str)) (.str ("leave" : Str)) = .ok (.bl false) := by kernel_rfl
@[simp] theorem ne_lesser_leave : opNe (.str ("lesser" : Str)) (.str ("leave" : Str)) = .ok (.bl true) := by kernel_rfl
@[simp] theorem eq_lesser_other : opEq (.str ("lesser" : Str)) (.str ("other" : Str)) = .ok (.bl false) := by kernel_rfl
@[simp] theorem ne_lesser_other : opNe (.str ("lesser" : Str)) (.str ("other" : Str)) = .ok (.bl true) := by kernel_rfl
@[simp] theorem eq_lesser_lesser : opEq (.str ("lesser" : Str)) (.str ("lesser" : Str)) = .ok (.bl true) := by kernel_rfl
@[simp] theorem ne_lesser_lesser : opNe (.str ("lesser" : Str)) (.str ("lesser" : Str)) = .ok (.bl false) := by kernel_rfl
@[simp] theorem eq_lesser_stay : opEq (.str ("lesser" : Str)) (.str ("stay" : Str)) = .ok (.bl false) := by kernel_rfl
@[simp] theorem ne_lesser_stay : opNe (.str ("lesser" : Str)) (.str ("stay" : Str)) = .ok (.bl true) := by kernel_rfl
@[simp] theorem eq_lesser_yield : opEq (.str ("lesser" : Str)) (.str ("yield" : Str)) = .ok (.bl false) := by kernel_rfl
@[simp] theorem ne_lesser_yield : opNe (.str ("lesser" : Str)) (.str ("yield" : Str)) = .ok (.bl true) := by kernel_rfl
@[simp] theorem eq_lesser_answer : opEq (.str ("lesser" : Str)) (.str ("answer" : Str)) = .ok (.bl false) := by kernel_rfl
@[simp] theorem ne_lesser_answer : opNe (.str ("lesser" : Str)) (.str ("answer" : Str)) = .ok (.bl true) := by kernel_rfl
@[simp] theorem eq_lesser_greater : opEq (.str ("lesser" : Str)) (.str ("greater" : Str)) = .ok (.bl false) := by kernel_rfl
@[simp] theorem ne_lesser_greater : opNe (.str ("lesser" : Str)) (.str ("greater" : Str)) = .ok (.bl true) := by kernel_rfl
@[simp] theorem eq_lesser_known : opEq (.str ("lesser" : Str)) (.str ("known" : Str)) = .ok (.bl false) := by kernel_rfl
@[simp] theorem ne_lesser_known : opNe (.str ("lesser" : Str)) (.str ("known" : Str)) = .ok (.bl true) := by kernel_rfl
@[simp] theorem eq_lesser_led : opEq (.str ("lesser" : Str)) (.str ("led" : Str)) = .ok (.bl false) := by kernel_rfl
@[simp] theorem ne_lesser_led : opNe (.str ("lesser" : Str)) (.str ("led" : Str)) = .ok (.bl true) := by kernel_rfl
@[simp] theorem eq_stay_free : opEq (.str ("stay" : Str)) (.str ("free" : Str)) = .ok (.bl false) := by kernel_rfl
@[simp] theorem ne_stay_free : opNe (.str ("stay" : Str)) (.str ("free" : Str)) = .ok (.bl true) := by kernel_rfl
@[simp] theorem eq_stay_ask : opEq (.str ("stay" : Str)) (.str ("ask" : Str)) = .ok (.bl false) := by kernel_rfl
@[simp] theorem ne_stay_ask : opNe (.str ("stay" : Str)) (.str ("ask" : Str)) = .ok (.bl true) := by kernel_rfl
@[simp] theorem eq_stay_hold : opEq (.str ("stay" : Str)) (.str ("hold" : Str)) = .ok (.bl false) := by kernel_rfl
@[simp] theorem ne_stay_hold : opNe (.str ("stay" : Str)) (.str ("hold" : Str)) = .ok (.bl true) := by kernel_rfl
@[simp] theorem eq_stay_pick : opEq (.str ("stay" : Str)) (.str ("pick" : Str)) = .ok (.bl false) := by kernel_rfl
@[simp] theorem ne_stay_pick : opNe (.str ("stay" : Str)) (.str ("pick" : Str)) = .ok (.bl true) := by kernel_rfl
@[simp] theorem eq_stay_take : opEq (.str ("stay" : Str)) (.str ("take" : Str)) = .ok (.bl false) := by kernel_rfl
@[simp] theorem ne_stay_take : opNe (.str ("stay" : Str)) (.str ("take" : Str)) = .ok (.bl true) := by kernel_rfl
@[simp] theorem eq_stay_tell : opEq (.str ("stay" : Str)) (.str ("tell" : Str)) = .ok (.bl false) := by kernel_rfl
@[simp] theorem ne_stay_tell : opNe (.str ("stay" : Str)) (.str ("tell" : Str)) = .ok (.bl true) := by kernel_rfl
@[simp] theorem eq_stay_leave : opEq (.str ("stay" : Str)) (.str ("leave" : Str)) = .ok (.bl false) := by kernel_rfl
@[simp] theorem ne_stay_leave : opNe (.str ("stay" : Str)) (.str ("leave" : Str)) = .ok (.bl true) := by kernel_rfl
@[simp] theorem eq_stay_other : opEq (.str ("stay" : Str)) (.str ("other" : Str)) = .ok (.bl false) := by kernel_rfl
@[simp] theorem ne_stay_other : opNe (.str ("stay" : Str)) (.str ("other" : Str)) = .ok (.bl true) := by kernel_rfl
@[simp] theorem eq_stay_lesser : opEq (.str ("stay" : Str)) (.str ("lesser" : Str)) = .ok (.bl false) := by kernel_rfl
@[simp] theorem ne_stay_lesser : opNe (.str ("stay" : Str)) (.str ("lesser" : Str)) = .ok (.bl true) := by kernel_rfl
@[simp] theorem eq_stay_stay : opEq (.str ("stay" : Str)) (.str ("stay" : Str)) = .ok (.bl true) := by kernel_rfl
@[simp] theorem ne_stay_stay : opNe (.str ("stay" : Str)) (.str ("stay" : Str)) = .ok (.bl false) := by kernel_rfl
@[simp] theorem eq_stay_yield : opEq (.str ("stay" : Str)) (.str ("yield" : Str)) = .ok (.bl false) := by kernel_rfl
@[simp] theorem ne_stay_yield : opNe (.str ("stay" : Str)) (.str ("yield" : Str)) = .ok (.bl true) := by kernel_rfl
@[simp] theorem eq_stay_answer : opEq (.str ("stay" : Str)) (.str ("answer" : Str)) = .ok (.bl false) := by kernel_rfl
@[simp] theorem ne_stay_answer : opNe (.str ("stay" : Str)) (.str ("answer" : Str)) = .ok (.bl true) := by kernel_rfl
@[simp] theorem eq_stay_greater : opEq (.str ("stay" : Str)) (.str ("greater" : Str)) = .ok (.bl false) := by kernel_rfl
@[simp] theorem ne_stay_greater : opNe (.str ("stay" : Str)) (.str ("greater" : Str)) = .ok (.bl true) := by kernel_rfl
@[simp] theorem eq_stay_known : opEq (.str ("stay" : Str)) (.str ("known" : Str)) = .ok (.bl false) := by kernel_rfl
@[simp] theorem ne_stay_known : opNe (.str ("stay" : Str)) (.str ("known" : Str)) = .ok (.bl true) := by kernel_rfl
@[simp] theorem eq_stay_led : opEq (.str ("stay" : Str)) (.str ("led" : Str)) = .ok (.bl false) := by kernel_rfl
@[simp] theorem ne_stay_led : opNe (.str ("stay" : Str)) (.str ("led" : Str)) = .ok (.bl true) := by kernel_rfl
@[simp] theorem eq_yield_free : opEq (.str ("yield" : Str)) (.str ("free" : Str)) = .ok (.bl false) := by kernel_rfl
@[simp] theorem ne_yield_free : opNe (.str ("yield" : Str)) (.str ("free" : Str)) = .ok (.bl true) := by kernel_rfl
@[simp] theorem eq_yield_ask : opEq (.str ("yield" : Str)) (.str ("ask" : Str)) = .ok (.bl false) := by kernel_rfl
@[simp] theorem ne_yield_ask : opNe (.str ("yield" : Str)) (.str ("ask" : Str)) = .ok (.bl true) := by kernel_rfl
@[simp] theorem eq_yield_hold : opEq (.str ("yield" : Str)) (.str ("hold" : Str)) = .ok (.bl false) := by kernel_rfl
@[simp] theorem ne_yield_hold : opNe (.str ("yield" : Str)) (.str ("hold" : Str)) = .ok (.bl true) := by kernel_rfl
@[simp] theorem eq_yield_pick : opEq (.str ("yield" : Str)) (.str ("pick" : Str)) = .ok (.bl false) := by kernel_rfl
@[simp] theorem ne_yield_pick : opNe (.str ("yield" : Str)) (.str ("pick" : Str)) = .ok (.bl true) := by kernel_rfl
@[simp] theorem eq_yield_take : opEq (.str ("yield" : Str)) (.str ("take" : Str)) = .ok (.bl false) := by kernel_rfl
@[simp] theorem ne_yield_take : opNe (.str ("yield" : Str)) (.str ("take" : Str)) = .ok (.bl true) := by kernel_rfl
@[simp] theorem eq_yield_tell : opEq (.str ("yield" : Str)) (.str ("tell" : Str)) = .ok (.bl false) := by kernel_rfl
@[simp] theorem ne_yield_tell : opNe (.str ("yield" : Str)) (.str ("tell" : Str)) = .ok (.bl true) := by kernel_rfl
@[simp] theorem eq_yield_leave : opEq (.str ("yield" : Str)) (.str ("leave" : Str)) = .ok (.bl false) := by kernel_rfl
@[simp] theorem ne_yield_leave : opNe (.str ("yield" : Str)) (.str ("leave" : Str)) = .ok (.bl true) := by kernel_rfl
@[simp] theorem eq_yield_other : opEq (.str ("yield" : Str)) (.str ("other" : Str)) = .ok (.bl false) := by kernel_rfl
@[simp] theorem ne_yield_other : opNe (.str ("yield" : Str)) (.str ("other" : Str)) = .ok (.bl true) := by kernel_rfl
@[simp] theorem eq_yield_lesser : opEq (.str ("yield" : Str)) (.str ("lesser" : Str)) = .ok (.bl false) := by kernel_rfl
@[simp] theorem ne_yield_lesser : opNe (.str ("yield" : Str)) (.str ("lesser" : Str)) = .ok (.bl true) := by kernel_rfl
@[simp] theorem eq_yield_stay : opEq (.str ("yield" : Str)) (.str ("stay" : Str)) = .ok (.bl false) := by kernel_rfl
@[simp] theorem ne_yield_stay : opNe (.str ("yield" : Str)) (.str ("stay" : Str)) = .ok (.bl true) := by kernel_rfl
@[simp] theorem eq_yield_yield : opEq (.str ("yield" : Str)) (.str ("yield" : Str)) = .ok (.bl true) := by kernel_rfl
@[simp] theorem ne_yield_yield : opNe (.str ("yield" : Str)) (.str ("yield" : Str)) = .ok (.bl false) := by kernel_rfl
@[simp] theorem eq_yield_answer : opEq (.str ("yield" : Str)) (.str ("answer" : Str)) = .ok (.bl false) := by kernel_rfl
@[simp] theorem ne_yield_answer : opNe (.str ("yield" : Str)) (.str ("answer" : Str)) = .ok (.bl true) := by kernel_rfl
@[simp] theorem eq_yield_greater : opEq (.str ("yield" : Str)) (.str ("greater" : Str)) = .ok (.bl false) := by kernel_rfl
@[simp] theorem ne_yield_greater : opNe (.str ("yield" : Str)) (.str ("greater" : Str)) = .ok (.bl true) := by kernel_rfl
@[simp] theorem eq_yield_known : opEq (.str ("yield" : Str)) (.str ("known" : Str)) = .ok (.bl false) := by kernel_rfl
@[simp] theorem ne_yield_known : opNe (.str ("yield" : Str)) (.str ("known" : Str)) = .ok (.bl true) := by kernel_rfl
@[simp] theorem eq_yield_led : opEq (.str ("yield" : Str)) (.str ("led" : Str)) = .ok (.bl false) := by kernel_rfl
@[simp] theorem ne_yield_led : opNe (.str ("yield" : Str)) (.str ("led" : Str)) = .ok (.bl true) := by kernel_rfl
@[simp] theorem eq_answer_free : opEq (.str ("answer" : Str)) (.str ("free" : Str)) = .ok (.bl false) := by kernel_rfl
@[simp] theorem ne_answer_free : opNe (.str ("answer" : Str)) (.str ("free" : Str)) = .ok (.bl true) := by kernel_rfl
@[simp] theorem eq_answer_ask : opEq (.str ("answer" : Str)) (.str ("ask" : Str)) = .ok (.bl false) := by kernel_rfl
@[simp] theorem ne_answer_ask : opNe (.str ("answer" : Str)) (.str ("ask" : Str)) = .ok (.bl true) := by kernel_rfl
@[simp] theorem eq_answer_hold : opEq (.str ("answer" : Str)) (.str ("hold" : Str)) = .ok (.bl false) := by kernel_rfl
@[simp] theorem ne_answer_hold : opNe (.str ("answer" : Str)) (.str ("hold" : Str)) = .ok (.bl true) := by kernel_rfl
@[simp] theorem eq_answer_pick : opEq (.str ("answer" : Str)) (.str ("pick" : Str)) = .ok (.bl false) := by kernel_rfl
@[simp] theorem ne_answer_pick : opNe (.str ("answer" : Str)) (.str ("pick" : Str)) = .ok (.bl true) := by kernel_rfl
@[simp] theorem eq_answer_take : opEq (.str ("answer" : Str)) (.str ("take" : Str)) = .ok (.bl false) := by kernel_rfl
@[simp] theorem ne_answer_take : opNe (.str ("answer" : Str)) (.str ("take" : Str)) = .ok (.bl true) := by kernel_rfl
@[simp] theorem eq_answer_tell : opEq (.str ("answer" : Str)) (.str ("tell" : Str)) = .ok (.bl false) := by kernel_rfl
@[simp] theorem ne_answer_tell : opNe (.str ("answer" : Str)) (.str ("tell" : Str)) = .ok (.bl true) := by kernel_rfl
@[simp] theorem eq_answer_leave : opEq (.str ("answer" : Str)) (.str ("leave" : Str)) = .ok (.bl false) := by kernel_rfl
@[simp] theorem ne_answer_leave : opNe (.str ("answer" : Str)) (.str ("leave" : Str)) = .ok (.bl true) := by kernel_rfl
@[simp] theorem eq_answer_other : opEq (.str ("answer" : Str)) (.str ("other" : Str)) = .ok (.bl false) := by kernel_rfl
@[simp] theorem ne_answer_other : opNe (.str ("answer" : Str)) (.str ("other" : Str)) = .ok (.bl true) := by kernel_rfl
@[simp] theorem eq_answer_lesser : opEq (.str ("answer" : Str)) (.str ("lesser" : Str)) = .ok (.bl false) := by kernel_rfl
@[simp] theorem ne_answer_lesser : opNe (.str ("answer" : Str)) (.str ("lesser" : Str)) = .ok (.bl true) := by kernel_rfl
@[simp] theorem eq_answer_stay : opEq (.str ("answer" : Str)) (.str ("stay" : Str)) = .ok (.bl false) := by kernel_rfl
@[simp] theorem ne_answer_stay : opNe (.str ("answer" : Str)) (.str ("stay" : Str)) = .ok (.bl true) := by kernel_rfl
@[simp] theorem eq_answer_yield : opEq (.str ("answer" : Str)) (.str ("yield" : Str)) = .ok (.bl false) := by kernel_rfl
@[simp] theorem ne_answer_yield : opNe (.str ("answer" : Str)) (.str ("yield" : Str)) = .ok (.bl true) := by kernel_rfl
@[simp] theorem eq_answer_answer : opEq (.str ("answer" : Str)) (.str ("answer" : Str)) = .ok (.bl true) := by kernel_rfl
@[simp] theorem ne_answer_answer : opNe (.str ("answer" : Str)) (.str ("answer" : Str)) = .ok (.bl false) := by kernel_rfl
@[simp] theorem eq_answer_greater : opEq (.str ("answer" : Str)) (.str ("greater" : Str)) = .ok (.bl false) := by kernel_rfl
@[simp] theorem ne_answer_greater : opNe (.str ("answer" : Str)) (.str ("greater" : Str)) = .ok (.bl true) := by kernel_rfl
@[simp] theorem eq_answer_known : opEq (.str ("answer" : Str)) (.str ("known" : Str)) = .ok (.bl false) := by kernel_rfl
@[simp] theorem ne_answer_known : opNe (.str ("answer" : Str)) (.str ("known" : Str)) = .ok (.bl true) := by kernel_rfl
@[simp] theorem eq_answer_led : opEq (.str ("answer" : Str)) (.str ("led" : Str)) = .ok (.bl false) := by kernel_rfl
@[simp] theorem ne_answer_led : opNe (.str ("answer" : Str)) (.str ("led" : Str)) = .ok (.bl true) := by kernel_rfl
@[simp] theorem eq_greater_free : opEq (.str ("greater" : Str)) (.str ("free" : Str)) = .ok (.bl false) := by kernel_rfl
@[simp] theorem ne_greater_free : opNe (.str ("greater" : Str)) (.str ("free" : Str)) = .ok (.bl true) := by kernel_rfl
@[simp] theorem eq_greater_ask : opEq (.str ("greater" : Str)) (.str ("ask" : Str)) = .ok (.bl false) := by kernel_rfl
@[simp] theorem ne_greater_ask : opNe (.str ("greater" : Str)) (.str ("ask" : Str)) = .ok (.bl true) := by kernel_rfl
@[simp] theorem eq_greater_hold : opEq (.str ("greater" : Str)) (.str ("hold" : Str)) = .ok (.bl false) := by kernel_rfl
@[simp] theorem ne_greater_hold : opNe (.str ("greater" : Str)) (.str ("hold" : Str)) = .ok (.bl true) := by kernel_rfl
@[simp] theorem eq_greater_pick : opEq (.str ("greater" : Str)) (.str ("pick" : Str)) = .ok (.bl false) := by kernel_rfl
@[simp] theorem ne_greater_pick : opNe (.str ("greater" : Str)) (.str ("pick" : Str)) = .ok (.bl true) := by kernel_rfl
@[simp] theorem eq_greater_take : opEq (.str ("greater" : Str)) (.str ("take" : Str)) = .ok (.bl false) := by kernel_rfl
@[simp] theorem ne_greater_take : opNe (.str ("greater" : Str)) (.str ("take" : Str)) = .ok (.bl true) := by kernel_rfl
@[simp] theorem eq_greater_tell : opEq (.str ("greater" : Str)) (.str ("tell" : Str)) = .ok (.bl false) := by kernel_rfl
@[simp] theorem ne_greater_tell : opNe (.str ("greater" : Str)) (.str ("tell" : Str)) = .ok (.bl true) := by kernel_rfl
@[simp] theorem eq_greater_leave : opEq (.str ("greater" : Str)) (.str ("leave" : Str)) = .ok (.bl false) := by kernel_rfl
@[simp] theorem ne_greater_leave : opNe (.str ("greater" : Str)) (.str ("leave" : Str)) = .ok (.bl true) := by kernel_rfl
@[simp] theorem eq_greater_other : opEq (.str ("greater" : Str)) (.str ("other" : Str)) = .ok (.bl false) := by kernel_rfl
@[simp] theorem ne_greater_other : opNe (.str ("greater" : Str)) (.str ("other" : Str)) = .ok (.bl true) := by kernel_rfl
@[simp] theorem eq_greater_lesser : opEq (.str ("greater" : Str)) (.str ("lesser" : Str)) = .ok (.bl false) := by kernel_rfl
@[simp] theorem ne_greater_lesser : opNe (.str ("greater" : Str)) (.str ("lesser" : Str)) = .ok (.bl true) := by kernel_rfl
@[simp] theorem eq_greater_stay : opEq (.str ("greater" : Str)) (.str ("stay" : Str)) = .ok (.bl false) := by kernel_rfl
@[simp] theorem ne_greater_stay : opNe (.str ("greater" : Str)) (.str ("stay" : Str)) = .ok (.bl true) := by kernel_rfl
@[simp] theorem eq_greater_yield : opEq (.str ("greater" : Str)) (.str ("yield" : Str)) = .ok (.bl false) := by kernel_rfl
@[simp] theorem ne_greater_yield : opNe (.str ("greater" : Str)) (.str ("yield" : Str)) = .ok (.bl true) := by kernel_rfl
@[simp] theorem eq_greater_answer : opEq (.str ("greater" : Str)) (.str ("answer" : Str)) = .ok (.bl false) := by kernel_rfl
@[simp] theorem ne_greater_answer : opNe (.str ("greater" : Str)) (.str ("answer" : Str)) = .ok (.bl true) := by kernel_rfl
@[simp] theorem eq_greater_greater : opEq (.str ("greater" : Str)) (.str ("greater" : Str)) = .ok (.bl true) := by kernel_rfl
@[simp] theorem ne_greater_greater : opNe (.str ("greater" : Str)) (.str ("greater" : Str)) = .ok (.bl false) := by kernel_rfl
@[simp] theorem eq_greater_known : opEq (.str ("greater" : Str)) (.str ("known" : Str)) = .ok (.bl false) := by kernel_rfl
@[simp] theorem ne_greater_known : opNe (.str ("greater" : Str)) (.str ("known" : Str)) = .ok (.bl true) := by kernel_rfl
@[simp] theorem eq_greater_led : opEq (.str ("greater" : Str)) (.str ("led" : Str)) = .ok (.bl false) := by kernel_rfl
@[simp] theorem ne_greater_led : opNe (.str ("greater" : Str)) (.str ("led" : Str)) = .ok (.bl true) := by kernel_rfl
@[simp] theorem eq_known_free : opEq (.str ("known" : Str)) (.str ("free" : Str)) = .ok (.bl false) := by kernel_rfl
@[simp] theorem ne_known_free : opNe (.str ("known" : Str)) (.str ("free" : Str)) = .ok (.bl true) := by kernel_rfl
@[simp] theorem eq_known_ask : opEq (.str ("known" : Str)) (.str ("ask" : Str)) = .ok (.bl false) := by kernel_rfl
@[simp] theorem ne_known_ask : opNe (.str ("known" : Str)) (.str ("ask" : Str)) = .ok (.bl true) := by kernel_rfl
@[simp] theorem eq_known_hold : opEq (.str ("known" : Str)) (.str ("hold" : Str)) = .ok (.bl false) := by kernel_rfl
@[simp] theorem ne_known_hold : opNe (.str ("known" : Str)) (.str ("hold" : Str)) = .ok (.bl true) := by kernel_rfl
@[simp] theorem eq_known_pick : opEq (.str ("known" : Str)) (.str ("pick" : Str)) = .ok (.bl false) := by kernel_rfl
@[simp] theorem ne_known_pick : opNe (.str ("known" : Str)) (.str ("pick" : Str)) = .ok (.bl true) := by kernel_rfl
@[simp] theorem eq_known_take : opEq (.str ("known" : Str)) (.str ("take" : Str)) = .ok (.bl false) := by kernel_rfl
@[simp] theorem ne_known_take : opNe (.str ("known" : Str)) (.str ("take" : Str)) = .ok (.bl true) := by kernel_rfl
@[simp] theorem eq_known_tell : opEq (.str ("known" : Str)) (.str ("tell" : Str)) = .ok (.bl false) := by kernel_rfl
@[simp] theorem ne_known_tell : opNe (.str ("known" : Str)) (.str ("tell" : Str)) = .ok (.bl true) := by kernel_rfl
@[simp] theorem eq_known_leave : opEq (.str ("known" : Str)) (.str ("leave" : Str)) = .ok (.bl false) := by kernel_rfl
@[simp] theorem ne_known_leave : opNe (.str ("known" : Str)) (.str ("leave" : Str)) = .ok (.bl true) := by kernel_rfl
@[simp] theorem eq_known_other : opEq (.str ("known" : Str)) (.str ("other" : Str)) = .ok (.bl false) := by kernel_rfl
@[simp] theorem ne_known_other : opNe (.str ("known" : Str)) (.str ("other" : Str)) = .ok (.bl true) := by kernel_rfl
@[simp] theorem eq_known_lesser : opEq (.str ("known" : Str)) (.str ("lesser" : Str)) = .ok (.bl false) := by kernel_rfl
@[simp] theorem ne_known_lesser : opNe (.str ("known" : Str)) (.str ("lesser" : Str)) = .ok (.bl true) := by kernel_rfl
@[simp] theorem eq_known_stay : opEq (.str ("known" : Str)) (.str ("stay" : Str)) = .ok (.bl false) := by kernel_rfl
@[simp] theorem ne_known_stay : opNe (.str ("known" : Str)) (.str ("stay" : Str)) = .ok (.bl true) := by kernel_rfl
@[simp] theorem eq_known_yield : opEq (.str ("known" : Str)) (.str ("yield" : Str)) = .ok (.bl false) := by kernel_rfl
@[simp] theorem ne_known_yield : opNe (.str ("known" : Str)) (.str ("yield" : Str)) = .ok (.bl true) := by kernel_rfl
@[simp] theorem eq_known_answer : opEq (.str ("known" : Str)) (.str ("answer" : Str)) = .ok (.bl false) := by kernel_rfl
@[simp] theorem ne_known_answer : opNe (.str ("known" : Str)) (.str ("answer" : Str)) = .ok (.bl true) := by kernel_rfl
@[simp] theorem eq_known_greater : opEq (.str ("known" : Str)) (.str ("greater" : Str)) = .ok (.bl false) := by kernel_rfl
@[simp] theorem ne_known_greater : opNe (.str ("known" : Str)) (.str ("greater" : Str)) = .ok (.bl true) := by kernel_rfl
@[simp] theorem eq_known_known : opEq (.str ("known" : Str)) (.str ("known" : Str)) = .ok (.bl true) := by kernel_rfl
@[simp] theorem ne_known_known : opNe (.str ("known" : Str)) (.str ("known" : Str)) = .ok (.bl false) := by kernel_rfl
@[simp] theorem eq_known_led : opEq (.str ("known" : Str)) (.str ("led" : Str)) = .ok (.bl false) := by kernel_rfl
@[simp] theorem ne_known_led : opNe (.str ("known" : Str)) (.str ("led" : Str)) = .ok (.bl true) := by kernel_rfl
@[simp] theorem eq_led_free : opEq (.str ("led" : Str)) (.str ("free" : Str)) = .ok (.bl false) := by kernel_rfl
@[simp] theorem ne_led_free : opNe (.str ("led" : Str)) (.str ("free" : Str)) = .ok (.bl true) := by kernel_rfl
@[simp] theorem eq_led_ask : opEq (.str ("led" : Str)) (.str ("ask" : Str)) = .ok (.bl false) := by kernel_rfl
@[simp] theorem ne_led_ask : opNe (.str ("led" : Str)) (.str ("ask" : Str)) = .ok (.bl true) := by kernel_rfl
@[simp] theorem eq_led_hold : opEq (.str ("led" : Str)) (.str ("hold" : Str)) = .ok (.bl false) := by kernel_rfl
@[simp] theorem ne_led_hold : opNe (.str ("led" : Str)) (.str ("hold" : Str)) = .ok (.bl true) := by kernel_rfl
@[simp] theorem eq_led_pick : opEq (.str ("led" : Str)) (.str ("pick" : Str)) = .ok (.bl false) := by kernel_rfl
@[simp] theorem ne_led_pick : opNe (.str ("led" : Str)) (.str ("pick" : Str)) = .ok (.bl true) := by kernel_rfl
@[simp] theorem eq_led_take : opEq (.str ("led" : Str)) (.str ("take" : Str)) = .ok (.bl false) := by kernel_rfl
@[simp] theorem ne_led_take : opNe (.str ("led" : Str)) (.str ("take" : Str)) = .ok (.bl true) := by kernel_rfl
@[simp] theorem eq_led_tell : opEq (.str ("led" : Str)) (.str ("tell" : Str)) = .ok (.bl false) := by kernel_rfl
@[simp] theorem ne_led_tell : opNe (.str ("led" : Str)) (.str ("tell" : Str)) = .ok (.bl true) := by kernel_rfl
@[simp] theorem eq_led_leave : opEq (.str ("led" : Str)) (.str ("leave" : Str)) = .ok (.bl false) := by kernel_rfl
@[simp] theorem ne_led_leave : opNe (.str ("led" : Str)) (.str ("leave" : Str)) = .ok (.bl true) := by kernel_rfl
@[simp] theorem eq_led_other : opEq (.str ("led" : Str)) (.str ("other" : Str)) = .ok (.bl false) := by kernel_rfl
@[simp] theorem ne_led_other : opNe (.str ("led" : Str)) (.str ("other" : Str)) = .ok (.bl true) := by kernel_rfl
@[simp] theorem eq_led_lesser : opEq (.str ("led" : Str)) (.str ("lesser" : Str)) = .ok (.bl false) := by kernel_rfl
@[simp] theorem ne_led_lesser : opNe (.str ("led" : Str)) (.str ("lesser" : Str)) = .ok (.bl true) := by kernel_rfl
@[simp] theorem eq_led_stay : opEq (.str ("led" : Str)) (.str ("stay" : Str)) = .ok (.bl false) := by kernel_rfl
@[simp] theorem ne_led_stay : opNe (.str ("led" : Str)) (.str ("stay" : Str)) = .ok (.bl true) := by kernel_rfl
@[simp] theorem eq_led_yield : opEq (.str ("led" : Str)) (.str ("yield" : Str)) = .ok (.bl false) := by kernel_rfl
@[simp] theorem ne_led_yield : opNe (.str ("led" : Str)) (.str ("yield" : Str)) = .ok (.bl true) := by kernel_rfl
@[simp] theorem eq_led_answer : opEq (.str ("led" : Str)) (.str ("answer" : Str)) = .ok (.bl false) := by kernel_rfl
@[simp] theorem ne_led_answer : opNe (.str ("led" : Str)) (.str ("answer" : Str)) = .ok (.bl true) := by kernel_rfl
@[simp] theorem eq_led_greater : opEq (.str ("led" : Str)) (.str ("greater" : Str)) = .ok (.bl false) := by kernel_rfl
@[simp] theorem ne_led_greater : opNe (.str ("led" : Str)) (.str ("greater" : Str)) = .ok (.bl true) := by kernel_rfl
@[simp] theorem eq_led_known : opEq (.str ("led" : Str)) (.str ("known" : Str)) = .ok (.bl false) := by kernel_rfl
@[simp] theorem ne_led_known : opNe (.str ("led" : Str)) (.str ("known" : Str)) = .ok (.bl true) := by kernel_rfl
@[simp] theorem eq_led_led : opEq (.str ("led" : Str)) (.str ("led" : Str)) = .ok (.bl true) := by kernel_rfl
@[simp] theorem ne_led_led : opNe (.str ("led" : Str)) (.str ("led" : Str)) = .ok (.bl false) := by kernel_rfl
end BV
set_option Elab.async false
set_option linter.all false
set_option maxRecDepth 100000
set_option maxHeartbeats 4000000
namespace BV
open PySem L2
theorem r_bind_ok {α β : Type} {a : α} {f : α → R β} : (R.ok a).bind f = f a := rfl
theorem seq_let {i : Nat} {f : Rho → R D} {G : Rho → Out} {ρ : Rho} {d : D} (h : f ρ = .ok d) : seqF (letF i f) G ρ = G (ρ.set i (some (false, d))) := by simp [seqF, letF, h, ofR, seqO]
theorem seq_par {i j : Nat} {f g : Rho → R D} {G : Rho → Out} {ρ : Rho} {d e : D} (h : f ρ = .ok d) (h2 : g ρ = .ok e) : seqF (par2 i j false false f g) G ρ = G ((ρ.set i (some (false, d))).set j (some (false, e))) := by simp [seqF, par2, h, h2, ofR, seqO, ownO]
theorem seq_ret {f : Rho → R D} {G : Rho → Out} {ρ : Rho} {d : D} (h : f ρ = .ok d) : seqF (retF f) G ρ = .rt d := by simp [seqF, retF, h, ofR, seqO]
theorem seq_if {t : Rho → R Bool} {F F' G : Rho → Out} {ρ : Rho} {b : Bool} (h : t ρ = .ok b) : seqF (ifF t F F') G ρ = seqO (if b then F ρ else F' ρ) G := by simp [seqF, ifF, h, ofT]
theorem bin_ok {F : D → D → R D} {f g : Rho → R D} {ρ : Rho} {x y : D} {r : R D} (h1 : f ρ = .ok x) (h2 : g ρ = .ok y) (h : F x y = r) : bin2 F f g ρ = r := by simp [bin2, h1, h2, R.bind, h]
theorem app1 {F : List D → R D} {f : Rho → R D} {ρ : Rho} {x : D} {r : R D} (h1 : f ρ = .ok x) (h : F [x] = r) : appL F (consL f nilL) ρ = r := by simp [appL, consL, nilL, h1, R.bind, h]
theorem mod_ok {i j : Int} (h : 0 < j) : opMod (.int i) (.int j) = .ok (.int (i % j)) := by simp [opMod, h]
theorem fdiv_ok {i j : Int} (h : 0 < j) (h2 : j < 1073741824) : opFdiv (.int i) (.int j) = .ok (.int (i / j)) := by simp [opFdiv, h, h2]
theorem mulL_ok {i j : Int} (h : -(2 ^ 64) < i ∧ i < 2 ^ 64) : opMul (.int i) (.int j) = .ok (.int (i * j)) := by
  have : mulOk i j = true := by unfold mulOk; rw [decide_eq_true h]; rfl
  simp [opMul, this]
theorem intsOf_map : ∀ (L : List Int), intsOf (L.map D.int) = some L
  | [] => rfl
  | a :: L => by simp [intsOf, intsOf_map L]
theorem canLay_ints : ∀ (L : List Int), PyData.canLayAll0 (L.map PyData.int) = true
  | [] => by simp [PyData.canLayAll0]
  | a :: L => by simp [PyData.canLayAll0, PyData.canLay0, canLay_ints L]
theorem depth_ints : ∀ (L : List Int), PyData.depthAll (L.map PyData.int) ≤ 1
  | [] => by simp [PyData.depthAll]
  | a :: L => by have := depth_ints L; simp [PyData.depthAll, PyData.depth]; omega
theorem shaped_ints (L : List Int) : SeqAt.shaped (.list (L.map PyData.int)) = true := by
  have h1 := canLay_ints L
  have h2 := depth_ints L
  unfold SeqAt.shaped
  simp [PyData.canLay0, h1, PyData.depth]
  omega

/-- a number from a position of the script -/
def F_num : Rho → Out := (seqF (letF 2 (iteV (tst (bin2 opNe (rdP 0) (mkL nilL))) (slF (rdP 0) noneF (someF (constF (.int 63)))) (mkL (consL (constF (.int 5)) nilL)))) (seqF (letF 3 (bin2 opAdd (bin2 opIx (rdP 2) (bin2 opMod (appL (Bi.ev .int) (consL (rdP 1) nilL)) (appL (Bi.ev .len) (consL (rdP 2) nilL)))) (bin2 opMul (constF (.int 13)) (bin2 opFdiv (rdP 1) (appL (Bi.ev .len) (consL (rdP 2) nilL)))))) (seqF (par2 4 5 false false (bin2 opMod (appL (Bi.ev .int) (consL (rdP 3) nilL)) (constF (.int 1000003))) (bin2 opMod (appL (Bi.ev .int) (consL (bin2 opFdiv (rdP 3) (constF (.int 1000003))) nilL)) (constF (.int 999983)))) (seqF (letF 6 (bin2 opMod (appL (Bi.ev .int) (consL (appL (Bi.ev .sum) (consL (rdP 2) nilL)) nilL)) (constF (.int 65521)))) (seqF (letF 7 (bin2 opMod (appL (Bi.ev .int) (consL (bin2 opAdd (bin2 opAdd (bin2 opMul (bin2 opAdd (rdP 4) (bin2 opMul (constF (.int 977)) (rdP 1))) (constF (.int 48271))) (bin2 opMul (constF (.int 31)) (rdP 5))) (rdP 6)) nilL)) (constF (.int 2147483647)))) (seqF (retF (bin2 opAdd (bin2 opMul (bin2 opMod (appL (Bi.ev .int) (consL (bin2 opMul (rdP 7) (bin2 opAdd (bin2 opAdd (rdP 7) (bin2 opMul (constF (.int 31)) (rdP 1))) (constF (.int 7)))) nilL)) (constF (.int 2147483629))) (constF (.int 65537))) (rdP 5))) nxF))))))
theorem num_ok (ns : List Int) (i : Int) (h0 : 0 ≤ i) (h1 : i ≤ 1000) : ∃ n : Int, 0 ≤ n ∧ runF 8 F_num [.scr ns, .int i] = .ok (.int n) := by
  obtain ⟨L, ⟨hL, hlt⟩, hc⟩ : ∃ L : List Int, (L ≠ [] ∧ (L.length : Int) < 1073741824) ∧ (iteV (tst (bin2 opNe (rdP 0) (mkL nilL))) (slF (rdP 0) noneF (someF (constF (.int 63)))) (mkL (consL (constF (.int 5)) nilL))) (startR 8 [.scr ns, .int i]) = .ok (.lst (L.map D.int)) := by
    cases ns with
    | nil => exact ⟨[5], ⟨by simp, by decide⟩, by simp [startR, iteV, tst, bin2, rdP, mkL, nilL, R.bind, opNe, D.toP, D.toPs, SeqAt.shaped, PyData.canLay0, PyData.canLayAll0, PyData.depth, PyData.depthAll, PyData.eqv, PyData.eqvAll, truth, consL, constF, sizeLine_eq]⟩
    | cons a l =>
      refine ⟨(a :: l).take 63, ⟨by simp, by rw [List.length_take]; omega⟩, ?_⟩
      have hs := shaped_ints (a :: l)
      have hs0 : SeqAt.shaped (.list []) = true := by decide
      have hcut : cutA (a :: l) none (some 63) = (a :: l).take 63 := by
        have e : ∀ xs : List Int, cutA xs none (some 63) = xs.take 63 := fun xs => by
          unfold cutA
          show (xs.drop 0).take (min (63 : Int).toNat xs.length - 0) = _
          rw [List.drop_zero, Nat.sub_zero, List.take_eq_take_iff]
          show min (min 63 xs.length) xs.length = _
          omega
        exact e _
      simp only [List.map_cons] at hs
      simp [startR, iteV, tst, bin2, rdP, mkL, nilL, R.bind, opNe, D.toP, D.toPs, hs, hs0, PyData.eqv, PyData.eqvAll, truth, consL, constF, sizeLine_eq, slF, noneF, someF, opSl, hcut]
  have hlen : 0 < (L.length : Int) := by
    have : 0 < L.length := List.length_pos_iff.mpr hL
    omega
  have hm0 := Int.emod_nonneg i (b := (L.length : Int)) (by omega)
  have hm1 := Int.emod_lt_of_pos i hlen
  obtain ⟨cell, hcell⟩ : ∃ cell : Int, atD (L.map D.int) (i % (L.length : Int)) = .ok (.int cell) := by
    refine ⟨L[(i % (L.length : Int)).toNat]'(by omega), ?_⟩
    unfold atD atI ixN
    rw [List.length_map, if_pos hm0, if_pos hm1]
    simp only [Option.bind_some, List.getElem?_map]
    rw [List.getElem?_eq_getElem (by omega)]
    rfl
  have hq := Int.ediv_nonneg h0 (Int.le_of_lt hlen)
  have hq2 : i / (L.length : Int) ≤ i := Int.ediv_le_self _ h0
  have h63 : (L.length : Int) < 1073741824 := hlt
  have small : ∀ z : Int, 0 ≤ z → z < 2 ^ 40 → -(2 ^ 64) < z ∧ z < 2 ^ 64 := fun z a b => by constructor <;> omega
  generalize hv : cell + 13 * (i / (L.length : Int)) = v
  have l0 := Int.emod_nonneg v (b := 1000003) (by decide)
  have l1 := Int.emod_lt_of_pos v (b := 1000003) (by decide)
  generalize hlow : v % 1000003 = low at l0 l1
  have g0 := Int.emod_nonneg (v / 1000003) (b := 999983) (by decide)
  have g1 := Int.emod_lt_of_pos (v / 1000003) (b := 999983) (by decide)
  generalize hhigh : (v / 1000003) % 999983 = high at g0 g1
  generalize htot : L.sum % 65521 = tot
  have b0 := Int.emod_nonneg ((low + 977 * i) * 48271 + 31 * high + tot) (b := 2147483647) (by decide)
  have b1 := Int.emod_lt_of_pos ((low + 977 * i) * 48271 + 31 * high + tot) (b := 2147483647) (by decide)
  generalize hbl : ((low + 977 * i) * 48271 + 31 * high + tot) % 2147483647 = bl at b0 b1
  have e0 := Int.emod_nonneg (bl * (bl + 31 * i + 7)) (b := 2147483629) (by decide)
  have e1 := Int.emod_lt_of_pos (bl * (bl + 31 * i + 7)) (b := 2147483629) (by decide)
  refine ⟨bl * (bl + 31 * i + 7) % 2147483629 * 65537 + high, by omega, ?_⟩
  unfold runF F_num
  refine (congrArg outR (seq_let hc)).trans ?_
  refine (congrArg outR (seq_let (d := .int v) ?qa1)).trans ?_
  case qa1 =>
    refine (bin_ok (x := .int cell) (y := .int (13 * (i / (L.length : Int)))) (bin_ok (y := .int (i % (L.length : Int))) rfl (bin_ok (app1 rfl rfl) (app1 (x := .lst (L.map D.int)) rfl rfl) ?m) hcell) (bin_ok rfl (bin_ok rfl (app1 (x := .lst (L.map D.int)) rfl rfl) ?n) (mulL_ok (by decide))) (by rw [← hv]; rfl))
    case m => rw [List.length_map]; exact mod_ok hlen
    case n => rw [List.length_map]; exact fdiv_ok hlen h63
  refine (congrArg outR (seq_par (d := .int low) (e := .int high) ?qa2 ?qb2)).trans ?_
  case qa2 => exact bin_ok (app1 rfl rfl) rfl (by rw [mod_ok (by decide), hlow])
  case qb2 => exact bin_ok (app1 (bin_ok rfl rfl (fdiv_ok (by decide) (by decide))) rfl) rfl (by rw [mod_ok (by decide), hhigh])
  refine (congrArg outR (seq_let (d := .int tot) ?qa3)).trans ?_
  case qa3 => exact bin_ok (app1 (app1 (x := .lst (L.map D.int)) rfl (by simp only [Bi.ev, biSum, intsOf_map]; rfl)) rfl) rfl (by rw [mod_ok (by decide), htot])
  refine (congrArg outR (seq_let (d := .int bl) ?qa4)).trans ?_
  case qa4 =>
    exact bin_ok (app1 (bin_ok (bin_ok (bin_ok (bin_ok rfl (bin_ok rfl rfl (mulL_ok (by decide))) rfl) rfl (mulL_ok (small _ (by omega) (by omega)))) (bin_ok rfl rfl (mulL_ok (by decide))) rfl) rfl rfl) rfl) rfl (by rw [mod_ok (by decide), hbl])
  refine (congrArg outR (seq_ret (d := .int (bl * (bl + 31 * i + 7) % 2147483629 * 65537 + high)) ?qa5)).trans rfl
  case qa5 =>
    exact bin_ok (bin_ok (bin_ok (app1 (bin_ok rfl (bin_ok (bin_ok rfl (bin_ok rfl rfl (mulL_ok (by decide))) rfl) rfl rfl) (mulL_ok (small _ b0 (by omega)))) rfl) rfl (mod_ok (by decide))) rfl (mulL_ok (small _ e0 (by omega)))) rfl rfl

theorem at_mod {l : List D} (hl : l ≠ []) (m : Int) : ∃ k : Nat, ∃ h : k < l.length, atD l (m % (l.length : Int)) = .ok l[k] := by
  have hp : 0 < (l.length : Int) := by have := List.length_pos_iff.mpr hl; omega
  have h0 := Int.emod_nonneg m (b := (l.length : Int)) (by omega)
  have h1 := Int.emod_lt_of_pos m hp
  obtain ⟨k, hk⟩ : ∃ k : Nat, m % (l.length : Int) = k := ⟨(m % (l.length : Int)).toNat, by omega⟩
  have hk2 : k < l.length := by omega
  refine ⟨k, hk2, ?_⟩
  rw [hk]
  exact at_nat (List.getElem?_eq_getElem hk2)
theorem six {k : Int} (h0 : 0 ≤ k) (h1 : k < 6) : k = 0 ∨ k = 1 ∨ k = 2 ∨ k = 3 ∨ k = 4 ∨ k = 5 := by omega
end BV
set_option Elab.async false
set_option linter.all false
set_option maxRecDepth 100000
set_option maxHeartbeats 1000000
namespace BV
open PySem L2
/-! ### dicts whose keys are coded by plain things -/
structure CodOk {α : Type} (c : α → D) : Prop where
  tk : ∀ a, (tkD (c a)).isSome = true
  inj : ∀ a b, (c a).toK = (c b).toK → a = b
def dctOf {α β : Type} (c : α → D) (e : β → D) (m : List (α × β)) : D := .dct (m.map fun x => c x.1) (m.map fun x => e x.2)
def keysOf {α β : Type} (m : List (α × β)) : List α := m.map (·.1)
section
variable {α β : Type} {c : α → D} {e : β → D}
theorem CodOk.all (h : CodOk c) (l : List α) : allTK (l.map c) = true := by
  simp only [allTK, List.all_map, List.all_eq_true]
  exact fun a _ => h.tk a
theorem CodOk.all' (h : CodOk c) (m : List (α × β)) : allTK (m.map fun x => c x.1) = true := by
  simp only [allTK, List.all_map, List.all_eq_true]
  exact fun a _ => h.tk _
theorem CodOk.key (h : CodOk c) (a : α) : ∃ k, tkD (c a) = some k ∧ (c a).toK = some k := by
  obtain ⟨k, e⟩ := Option.isSome_iff_exists.mp (h.tk a)
  exact ⟨k, e, (tkD_some e).1⟩
variable [DecidableEq α]
def lookA (m : List (α × β)) (a : α) : Option β := match m with
  | [] => none
  | x :: m => if x.1 = a then some x.2 else lookA m a
theorem kAt_cod (h : CodOk c) {a : α} {k : NestedKey} (hk : (c a).toK = some k) : ∀ m : List (α × β), kAt k (m.map fun x => c x.1) (m.map fun x => e x.2) = (lookA m a).map e
  | [] => rfl
  | x :: m => by
    simp only [List.map_cons, kAt, lookA]
    by_cases hx : x.1 = a
    · rw [if_pos (by rw [hx]; exact hk), if_pos hx]; rfl
    · rw [if_neg (fun z => hx (h.inj _ _ (z.trans hk.symm))), if_neg hx, kAt_cod h hk m]
theorem look_some {m : List (α × β)} {a : α} : (lookA m a).isSome = decide (a ∈ keysOf m) := by
  induction m with
  | nil => simp [lookA, keysOf]
  | cons x m ih =>
    unfold lookA
    by_cases hx : x.1 = a
    · simp [hx, keysOf]
    · rw [if_neg hx, ih]
      have : ¬ a = x.1 := fun z => hx z.symm
      apply decide_eq_decide.mpr
      simp [keysOf, this]
theorem inK_cod (h : CodOk c) (a : α) (m : List (α × β)) : opInK (c a) (dctOf c e m) = .ok (.bl (decide (a ∈ keysOf m))) := by
  obtain ⟨k, e1, e2⟩ := h.key a
  unfold opInK dctOf
  rw [lookK_dct e1 (h.all' m), kAt_cod h e2, Option.isSome_map, look_some]
theorem ninK_cod (h : CodOk c) (a : α) (m : List (α × β)) : opNinK (c a) (dctOf c e m) = .ok (.bl (!decide (a ∈ keysOf m))) := by
  obtain ⟨k, e1, e2⟩ := h.key a
  unfold opNinK dctOf
  rw [lookK_dct e1 (h.all' m), kAt_cod h e2, Option.isSome_map, look_some]
theorem ixK_cod (h : CodOk c) {a : α} {b : β} {m : List (α × β)} (hb : lookA m a = some b) : opIxK (dctOf c e m) (c a) = .ok (e b) := by
  obtain ⟨k, e1, e2⟩ := h.key a
  unfold opIxK dctOf
  rw [lookK_dct e1 (h.all' m), kAt_cod h e2, hb]; rfl
/-- the value of a new key -/
theorem setK_new (h : CodOk c) {a : α} {b : β} {m : List (α × β)} {i : Nat} {fi f : Rho → R D} {ρ : Rho} (hi : ρ[i]? = some (some (true, dctOf c e m))) (h1 : f ρ = .ok (e b)) (h2 : fi ρ = .ok (c a)) (hn : a ∉ keysOf m) (hl : m.length < sizeLine) :
    setKF i fi f ρ = .nx (ρ.set i (some (true, dctOf c e (m ++ [(a, b)])))) := by
  obtain ⟨k, e1, e2⟩ := h.key a
  unfold setKF
  rw [h1]
  simp only [ofR]
  rw [hi]
  show ofR (fi ρ) ρ _ = _
  rw [h2]
  simp only [ofR, e1]
  have ha := h.all' m
  rw [if_pos ⟨ha, by simpa using hl⟩]
  unfold dPut
  rw [kAt_cod h e2, Option.isSome_map, look_some, if_neg (by simpa using hn)]
  simp [dctOf]
def putA (m : List (α × β)) (a : α) (b : β) : List (α × β) := match m with
  | [] => []
  | x :: m => if x.1 = a then (x.1, b) :: m else x :: putA m a b
theorem kPut_cod (h : CodOk c) {a : α} {b : β} {k : NestedKey} (hk : (c a).toK = some k) : ∀ m : List (α × β), kPut k (e b) (m.map fun x => c x.1) (m.map fun x => e x.2) = (putA m a b).map fun x => e x.2
  | [] => rfl
  | x :: m => by
    simp only [List.map_cons, kPut, putA]
    by_cases hx : x.1 = a
    · rw [if_pos (by rw [hx]; exact hk), if_pos hx]; rfl
    · rw [if_neg (fun z => hx (h.inj _ _ (z.trans hk.symm))), if_neg hx, kPut_cod h hk m]; rfl
theorem putA_keys (m : List (α × β)) (a : α) (b : β) : keysOf (putA m a b) = keysOf m := by
  induction m with
  | nil => rfl
  | cons x m ih =>
    unfold putA
    by_cases hx : x.1 = a
    · simp [hx, keysOf]
    · rw [if_neg hx]; simp only [keysOf, List.map_cons] at ih ⊢; rw [ih]
theorem setK_old (h : CodOk c) {a : α} {b : β} {m : List (α × β)} {i : Nat} {fi f : Rho → R D} {ρ : Rho} (hi : ρ[i]? = some (some (true, dctOf c e m))) (h1 : f ρ = .ok (e b)) (h2 : fi ρ = .ok (c a)) (hn : a ∈ keysOf m) (hl : m.length < sizeLine) :
    setKF i fi f ρ = .nx (ρ.set i (some (true, dctOf c e (putA m a b)))) := by
  obtain ⟨k, e1, e2⟩ := h.key a
  unfold setKF
  rw [h1]
  simp only [ofR]
  rw [hi]
  show ofR (fi ρ) ρ _ = _
  rw [h2]
  simp only [ofR, e1]
  have ha := h.all' m
  rw [if_pos ⟨ha, by simpa using hl⟩]
  unfold dPut
  rw [kAt_cod h e2, Option.isSome_map, look_some, if_pos (by simpa using hn), kPut_cod h e2]
  have := putA_keys m a b
  have e3 : (m.map fun x => c x.1) = (putA m a b).map fun x => c x.1 := by
    have : ((keysOf m).map c) = (keysOf (putA m a b)).map c := by rw [this]
    simpa [keysOf, List.map_map, Function.comp_def] using this
  simp only [dctOf]
  rw [e3]
@[simp] theorem lenK_cod {m : List (α × β)} : biLenK [dctOf c e m] = .ok (.int m.length) := by simp [biLenK, dctOf]
@[simp] theorem listK_cod {m : List (α × β)} : biListK [dctOf c e m] = .ok (.lst ((keysOf m).map c)) := by simp [biListK, dctOf, keysOf]
@[simp] theorem keysD_cod {m : List (α × β)} : keysD (dctOf c e m) = .ok ((keysOf m).map c) := by simp [keysD, dctOf, keysOf]
@[simp] theorem ownD_cod {m : List (α × β)} : ownD (dctOf c e m) = true := rfl
@[simp] theorem rdP_cod {m : List (α × β)} {r : Rho} : rdP 0 (some (true, dctOf c e m) :: r) = .ok (dctOf c e m) := rfl
theorem look_append {m m' : List (α × β)} {a : α} : lookA (m ++ m') a = match lookA m a with | some b => some b | none => lookA m' a := by
  induction m with
  | nil => rfl
  | cons x m ih =>
    simp only [List.cons_append, lookA]
    split
    · rfl
    · exact ih
theorem look_keep {m m' : List (α × β)} {a : α} (h : a ∈ keysOf m) : lookA (m ++ m') a = lookA m a := by
  rw [look_append]
  have := look_some (m := m) (a := a)
  rw [decide_eq_true h] at this
  obtain ⟨b, e⟩ := Option.isSome_iff_exists.mp this
  rw [e]
end
/-- things without twins, among others -/
theorem nodup_le {α : Type} [DecidableEq α] : ∀ (l m : List α), l.Nodup → (∀ a ∈ l, a ∈ m) → l.length ≤ m.length
  | [], _, _, _ => Nat.zero_le _
  | a :: l, m, h, hm => by
    rw [List.nodup_cons] at h
    have ha := hm a (by simp)
    have := nodup_le l (m.erase a) h.2 fun b hb => (List.mem_erase_of_ne (fun z => by subst z; exact h.1 hb)).mpr (hm b (by simp [hb]))
    rw [List.length_erase_of_mem ha] at this
    have : 0 < m.length := List.length_pos_of_mem ha
    simp only [List.length_cons]
    omega
end BV
set_option Elab.async false
set_option linter.all false
set_option maxRecDepth 100000
set_option maxHeartbeats 4000000
namespace BV
open PySem L2
/-- data that compares, no deeper than k -/
def Cm (k : Nat) (d : D) : Prop := ∃ p, d.toP = some p ∧ p.canLay0 = true ∧ p.depth ≤ k
def Cms (k : Nat) (ds : List D) : Prop := ∃ ps, D.toPs ds = some ps ∧ PyData.canLayAll0 ps = true ∧ PyData.depthAll ps ≤ k
theorem Cm.mono {k j : Nat} {d : D} (h : Cm k d) (hj : k ≤ j) : Cm j d := by
  obtain ⟨p, a, b, c⟩ := h
  exact ⟨p, a, b, by omega⟩
theorem cms_nil {k : Nat} : Cms k [] := ⟨[], by simp [D.toPs], by simp [PyData.canLayAll0], by simp [PyData.depthAll]⟩
theorem cms_cons {k : Nat} {d : D} {ds : List D} (h : Cm k d) (hs : Cms k ds) : Cms k (d :: ds) := by
  obtain ⟨p, a, b, c⟩ := h
  obtain ⟨ps, a', b', c'⟩ := hs
  refine ⟨p :: ps, by simp [D.toPs, a, a'], by simp [PyData.canLayAll0, b, b'], by simp [PyData.depthAll]; omega⟩
theorem cms_all {k : Nat} : ∀ {ds : List D}, (∀ d ∈ ds, Cm k d) → Cms k ds
  | [], _ => cms_nil
  | d :: ds, h => cms_cons (h d (List.mem_cons_self ..)) (cms_all fun x hx => h x (List.mem_cons_of_mem _ hx))
theorem cm_tup {k : Nat} {ds : List D} (h : Cms k ds) : Cm (k + 1) (.tup ds) := by
  obtain ⟨ps, a, b, c⟩ := h
  exact ⟨.tuple ps, by simp [D.toP, a], by simp [PyData.canLay0, b], by simp [PyData.depth]; omega⟩
theorem cm_lst {k : Nat} {ds : List D} (h : Cms k ds) : Cm (k + 1) (.lst ds) := by
  obtain ⟨ps, a, b, c⟩ := h
  exact ⟨.list ps, by simp [D.toP, a], by simp [PyData.canLay0, b], by simp [PyData.depth]; omega⟩
theorem cm_int {k : Nat} {i : Int} : Cm k (.int i) := ⟨.int i, rfl, by simp [PyData.canLay0], by simp [PyData.depth]⟩
theorem cm_bl {k : Nat} {i : Bool} : Cm k (.bl i) := ⟨.bool i, rfl, by simp [PyData.canLay0], by simp [PyData.depth]⟩
theorem cm_non {k : Nat} : Cm k .non := ⟨.none, rfl, by simp [PyData.canLay0], by simp [PyData.depth]⟩
theorem cm_str {k : Nat} {x : Str} (h : PyData.strOk x = true) : Cm k (.str x) := ⟨.str x, rfl, by simp [PyData.canLay0, h], by simp [PyData.depth]⟩
theorem cm_shaped {p : PyData} (h1 : p.canLay0 = true) (h2 : p.depth ≤ 20) : SeqAt.shaped p = true := by
  unfold SeqAt.shaped
  simp [h1]; omega
theorem cm_ne {d : D} (h : Cm 20 d) : opNe d d = .ok (.bl false) := by
  obtain ⟨p, h1, h2, h3⟩ := h
  simp [opNe, h1, cm_shaped h2 h3, eqv_refl p h2]
theorem cm_eq {d : D} (h : Cm 20 d) : opEq d d = .ok (.bl true) := by
  obtain ⟨p, h1, h2, h3⟩ := h
  simp [opEq, h1, cm_shaped h2 h3, eqv_refl p h2]
theorem cm_neNil {d : D} {ds : List D} (h : Cm 20 (.lst (d :: ds))) : opNe (.lst (d :: ds)) (.lst []) = .ok (.bl true) := by
  obtain ⟨p, h1, h2, h3⟩ := h
  simp only [D.toP, Option.map_eq_some_iff] at h1
  obtain ⟨ps, e1, rfl⟩ := h1
  have e2 : ∃ q qs, ps = q :: qs := by
    simp only [D.toPs] at e1
    split at e1
    · simp at e1; exact ⟨_, _, e1.symm⟩
    · cases e1
  obtain ⟨q, qs, rfl⟩ := e2
  have hs : SeqAt.shaped (.list []) = true := by decide +kernel
  have e3 : (D.lst (d :: ds)).toP = some (.list (q :: qs)) := by simp only [D.toP, e1, Option.map_some]
  have e4 : (D.lst []).toP = some (.list []) := by simp [D.toP, D.toPs]
  simp [opNe, e3, e4, cm_shaped h2 h3, hs, PyData.eqv, PyData.eqvAll]
theorem neNil0 : opNe (.lst []) (.lst []) = .ok (.bl false) := by kernel_rfl

section
variable {α β : Type} {c : α → D} {e : β → D} [DecidableEq α]
/-- dict([(k, v), ..]) -/
def put1 (m : List (α × β)) (x : α × β) : List (α × β) := if x.1 ∈ keysOf m then putA m x.1 x.2 else m ++ [x]
def puts (m l : List (α × β)) : List (α × β) := l.foldl put1 m
theorem dPuts_cod (h : CodOk c) : ∀ (l m : List (α × β)), dPuts (l.map fun x => .tup [c x.1, e x.2]) (m.map fun x => c x.1) (m.map fun x => e x.2) = some (dctOf c e (puts m l))
  | [], m => rfl
  | x :: l, m => by
    obtain ⟨k, e1, e2⟩ := h.key x.1
    simp only [List.map_cons, dPuts, prD, e1, Option.map_some]
    unfold dPut
    rw [kAt_cod h e2, Option.isSome_map, look_some]
    by_cases hx : x.1 ∈ keysOf m
    · rw [if_pos (by simpa using hx), kPut_cod h e2]
      have e3 : (m.map fun x => c x.1) = (putA m x.1 x.2).map fun x => c x.1 := by
        have : ((keysOf m).map c) = (keysOf (putA m x.1 x.2)).map c := by rw [putA_keys]
        simpa [keysOf, List.map_map, Function.comp_def] using this
      rw [e3]
      exact (dPuts_cod h l (putA m x.1 x.2)).trans (by simp [puts, put1, hx])
    · rw [if_neg (by simpa using hx)]
      have := dPuts_cod h l (m ++ [x])
      simp only [List.map_append, List.map_cons, List.map_nil] at this
      exact this.trans (by simp [puts, put1, hx])
theorem dictP_cod (h : CodOk c) (l : List (α × β)) (hl : l.length ≤ sizeLine) : biDictP [.lst (l.map fun x => .tup [c x.1, e x.2])] = .ok (dctOf c e (puts [] l)) := by
  have := dPuts_cod (e := e) h l []
  simp only [List.map_nil] at this
  simp [biDictP, hl, this]
theorem put1_keys {m : List (α × β)} {x : α × β} {a : α} : a ∈ keysOf (put1 m x) ↔ a ∈ keysOf m ∨ a = x.1 := by
  unfold put1
  split
  · rename_i h
    rw [putA_keys]
    exact ⟨.inl, fun z => z.elim id fun z => z ▸ h⟩
  · simp [keysOf]
theorem puts_keys {a : α} : ∀ {l m : List (α × β)}, a ∈ keysOf (puts m l) ↔ a ∈ keysOf m ∨ a ∈ keysOf l
  | [], m => by simp [puts, keysOf]
  | x :: l, m => by
    have := puts_keys (a := a) (l := l) (m := put1 m x)
    simp only [puts, List.foldl_cons] at this ⊢
    rw [this, put1_keys]
    simp only [keysOf, List.map_cons, List.mem_cons]
    constructor
    · rintro ((h | h) | h)
      · exact .inl h
      · exact .inr (.inl h)
      · exact .inr (.inr h)
    · rintro (h | h | h)
      · exact .inl (.inl h)
      · exact .inl (.inr h)
      · exact .inr h
theorem puts_len : ∀ (l m : List (α × β)), (puts m l).length ≤ m.length + l.length
  | [], m => by simp [puts]
  | x :: l, m => by
    have h := puts_len l (put1 m x)
    have h2 : (put1 m x).length ≤ m.length + 1 := by
      unfold put1
      split
      · have := congrArg List.length (putA_keys m x.1 x.2)
        simp only [keysOf, List.length_map] at this
        omega
      · simp
    simp only [puts, List.foldl_cons, List.length_cons] at h ⊢
    omega
theorem look_mem {m : List (α × β)} {a : α} (h : a ∈ keysOf m) : ∃ b, lookA m a = some b ∧ (a, b) ∈ m := by
  induction m with
  | nil => simp [keysOf] at h
  | cons x m ih =>
    unfold lookA
    by_cases hx : x.1 = a
    · exact ⟨x.2, by rw [if_pos hx], by rw [← hx]; simp⟩
    · rw [if_neg hx]
      have h : a ∈ keysOf m := by
        simp only [keysOf, List.map_cons, List.mem_cons] at h
        rcases h with h | h
        · exact (hx h.symm).elim
        · exact h
      obtain ⟨b, h1, h2⟩ := ih h
      exact ⟨b, h1, List.mem_cons_of_mem _ h2⟩
end
/-! ### loops -/
/-- a loop that looks at each thing, and returns at the first bad one -/
theorem for_check {α : Type} {enc : α → D} {bind : D → Rho → Option Rho} {body : Rho → Out} {good : α → Bool} {d : D} {Inv : Rho → Prop} : ∀ {l : List α},
    (∀ a ∈ l, ∀ ρ, Inv ρ → ∃ ρ1, bind (enc a) ρ = some ρ1 ∧ (if good a = true then ∃ ρ2, body ρ1 = .nx ρ2 ∧ Inv ρ2 else body ρ1 = .rt d)) → ∀ ρ, Inv ρ →
    (if l.all good = true then ∃ ρ', forGo bind body (l.map enc) ρ = .nx ρ' ∧ Inv ρ' else forGo bind body (l.map enc) ρ = .rt d)
  | [], _, ρ, h => by simp only [List.all_nil, if_true]; exact ⟨ρ, rfl, h⟩
  | a :: l, st, ρ, h => by
    obtain ⟨ρ1, e1, e2⟩ := st a (by simp) ρ h
    simp only [List.map_cons, s_forC, e1, List.all_cons]
    cases hg : good a with
    | false =>
      rw [hg] at e2
      simp only [Bool.false_eq_true, if_false, Bool.false_and] at e2 ⊢
      rw [e2]; rfl
    | true =>
      rw [hg] at e2
      simp only [if_true, Bool.true_and] at e2 ⊢
      obtain ⟨ρ2, e3, e4⟩ := e2
      rw [e3]
      exact for_check (fun b hb => st b (by simp [hb])) ρ2 e4
/-- a loop that goes to its end -/
theorem for_all {α : Type} {enc : α → D} {bind : D → Rho → Option Rho} {body : Rho → Out} {Inv : List α → Rho → Prop} : ∀ {l : List α} {pre : List α},
    (∀ a ∈ l, ∀ pre ρ, Inv pre ρ → ∃ ρ1, bind (enc a) ρ = some ρ1 ∧ ∃ ρ2, body ρ1 = .nx ρ2 ∧ Inv (pre ++ [a]) ρ2) → ∀ ρ, Inv pre ρ → ∃ ρ', forGo bind body (l.map enc) ρ = .nx ρ' ∧ Inv (pre ++ l) ρ'
  | [], pre, _, ρ, h => ⟨ρ, rfl, by simpa using h⟩
  | a :: l, pre, st, ρ, h => by
    obtain ⟨ρ1, e1, ρ2, e2, e3⟩ := st a (by simp) pre ρ h
    obtain ⟨ρ', e4, e5⟩ := for_all (l := l) (pre := pre ++ [a]) (fun b hb => st b (List.mem_cons_of_mem _ hb)) ρ2 e3
    exact ⟨ρ', by simp only [List.map_cons, s_forC, e1, e2, s_lnx, e4], by simpa using e5⟩
end BV
set_option Elab.async false
set_option linter.all false
set_option maxRecDepth 100000
set_option maxHeartbeats 4000000
namespace BV
open PySem L2
theorem mulR_ok {i j : Int} (h : -(2 ^ 64) < j ∧ j < 2 ^ 64) : opMul (.int i) (.int j) = .ok (.int (i * j)) := by
  have : mulOk i j = true := by unfold mulOk; rw [decide_eq_true h, Bool.or_true]
  simp [opMul, this]
theorem num_any (ns : List Int) (i : Int) : ∃ n : Int, runF 8 F_num [.scr ns, .int i] = .ok (.int n) := by
  obtain ⟨L, ⟨hL, hlt⟩, hc⟩ : ∃ L : List Int, (L ≠ [] ∧ (L.length : Int) < 1073741824) ∧ (iteV (tst (bin2 opNe (rdP 0) (mkL nilL))) (slF (rdP 0) noneF (someF (constF (.int 63)))) (mkL (consL (constF (.int 5)) nilL))) (startR 8 [.scr ns, .int i]) = .ok (.lst (L.map D.int)) := by
    cases ns with
    | nil => exact ⟨[5], ⟨by simp, by decide⟩, by simp [startR, iteV, tst, bin2, rdP, mkL, nilL, R.bind, opNe, D.toP, D.toPs, SeqAt.shaped, PyData.canLay0, PyData.canLayAll0, PyData.depth, PyData.depthAll, PyData.eqv, PyData.eqvAll, truth, consL, constF, sizeLine_eq]⟩
    | cons a l =>
      refine ⟨(a :: l).take 63, ⟨by simp, by rw [List.length_take]; omega⟩, ?_⟩
      have hs := shaped_ints (a :: l)
      have hs0 : SeqAt.shaped (.list []) = true := by decide
      have hcut : cutA (a :: l) none (some 63) = (a :: l).take 63 := by
        have e : ∀ xs : List Int, cutA xs none (some 63) = xs.take 63 := fun xs => by
          unfold cutA
          show (xs.drop 0).take (min (63 : Int).toNat xs.length - 0) = _
          rw [List.drop_zero, Nat.sub_zero, List.take_eq_take_iff]
          show min (min 63 xs.length) xs.length = _
          omega
        exact e _
      simp only [List.map_cons] at hs
      simp [startR, iteV, tst, bin2, rdP, mkL, nilL, R.bind, opNe, D.toP, D.toPs, hs, hs0, PyData.eqv, PyData.eqvAll, truth, consL, constF, sizeLine_eq, slF, noneF, someF, opSl, hcut]
  have hlen : 0 < (L.length : Int) := by
    have : 0 < L.length := List.length_pos_iff.mpr hL
    omega
  have hm0 := Int.emod_nonneg i (b := (L.length : Int)) (by omega)
  have hm1 := Int.emod_lt_of_pos i hlen
  obtain ⟨cell, hcell⟩ : ∃ cell : Int, atD (L.map D.int) (i % (L.length : Int)) = .ok (.int cell) := by
    refine ⟨L[(i % (L.length : Int)).toNat]'(by omega), ?_⟩
    unfold atD atI ixN
    rw [List.length_map, if_pos hm0, if_pos hm1]
    simp only [Option.bind_some, List.getElem?_map]
    rw [List.getElem?_eq_getElem (by omega)]
    rfl
  have h63 : (L.length : Int) < 1073741824 := hlt
  have small : ∀ z : Int, 0 ≤ z → z < 2 ^ 40 → -(2 ^ 64) < z ∧ z < 2 ^ 64 := fun z a b => by constructor <;> omega
  generalize hv : cell + 13 * (i / (L.length : Int)) = v
  have l0 := Int.emod_nonneg v (b := 1000003) (by decide)
  have l1 := Int.emod_lt_of_pos v (b := 1000003) (by decide)
  generalize hlow : v % 1000003 = low at l0 l1
  have g0 := Int.emod_nonneg (v / 1000003) (b := 999983) (by decide)
  have g1 := Int.emod_lt_of_pos (v / 1000003) (b := 999983) (by decide)
  generalize hhigh : (v / 1000003) % 999983 = high at g0 g1
  generalize htot : L.sum % 65521 = tot
  have b0 := Int.emod_nonneg ((low + 977 * i) * 48271 + 31 * high + tot) (b := 2147483647) (by decide)
  have b1 := Int.emod_lt_of_pos ((low + 977 * i) * 48271 + 31 * high + tot) (b := 2147483647) (by decide)
  generalize hbl : ((low + 977 * i) * 48271 + 31 * high + tot) % 2147483647 = bl at b0 b1
  have e0 := Int.emod_nonneg (bl * (bl + 31 * i + 7)) (b := 2147483629) (by decide)
  have e1 := Int.emod_lt_of_pos (bl * (bl + 31 * i + 7)) (b := 2147483629) (by decide)
  refine ⟨bl * (bl + 31 * i + 7) % 2147483629 * 65537 + high, ?_⟩
  unfold runF F_num
  refine (congrArg outR (seq_let hc)).trans ?_
  refine (congrArg outR (seq_let (d := .int v) ?qa1)).trans ?_
  case qa1 =>
    refine (bin_ok (x := .int cell) (y := .int (13 * (i / (L.length : Int)))) (bin_ok (y := .int (i % (L.length : Int))) rfl (bin_ok (app1 rfl rfl) (app1 (x := .lst (L.map D.int)) rfl rfl) ?m) hcell) (bin_ok rfl (bin_ok rfl (app1 (x := .lst (L.map D.int)) rfl rfl) ?n) (mulL_ok (by decide))) (by rw [← hv]; rfl))
    case m => rw [List.length_map]; exact mod_ok hlen
    case n => rw [List.length_map]; exact fdiv_ok hlen h63
  refine (congrArg outR (seq_par (d := .int low) (e := .int high) ?qa2 ?qb2)).trans ?_
  case qa2 => exact bin_ok (app1 rfl rfl) rfl (by rw [mod_ok (by decide), hlow])
  case qb2 => exact bin_ok (app1 (bin_ok rfl rfl (fdiv_ok (by decide) (by decide))) rfl) rfl (by rw [mod_ok (by decide), hhigh])
  refine (congrArg outR (seq_let (d := .int tot) ?qa3)).trans ?_
  case qa3 => exact bin_ok (app1 (app1 (x := .lst (L.map D.int)) rfl (by simp only [Bi.ev, biSum, intsOf_map]; rfl)) rfl) rfl (by rw [mod_ok (by decide), htot])
  refine (congrArg outR (seq_let (d := .int bl) ?qa4)).trans ?_
  case qa4 =>
    exact bin_ok (app1 (bin_ok (bin_ok (bin_ok (bin_ok rfl (bin_ok rfl rfl (mulL_ok (by decide))) rfl) rfl (mulR_ok (by decide))) (bin_ok rfl rfl (mulL_ok (by decide))) rfl) rfl rfl) rfl) rfl (by rw [mod_ok (by decide), hbl])
  refine (congrArg outR (seq_ret (d := .int (bl * (bl + 31 * i + 7) % 2147483629 * 65537 + high)) ?qa5)).trans rfl
  case qa5 =>
    exact bin_ok (bin_ok (bin_ok (app1 (bin_ok rfl (bin_ok (bin_ok rfl (bin_ok rfl rfl (mulL_ok (by decide))) rfl) rfl rfl) (mulL_ok (small _ b0 (by omega)))) rfl) rfl (mod_ok (by decide))) rfl (mulL_ok (small _ e0 (by omega)))) rfl rfl


/-! ### draws -/
@[simp] theorem s_bany {α β : Type} {k : Int → R α} {f : α → R β} : (R.any k).bind f = .any fun i => (k i).bind f := rfl
@[simp] theorem s_ofRany {k : Int → R D} {ρ : Rho} {f : D → Out} : ofR (.any k) ρ f = .any fun i => ofR (k i) ρ f := rfl
@[simp] theorem s_seqany {k : Int → Out} {f : Rho → Out} : seqO (.any k) f = .any fun i => seqO (k i) f := rfl
@[simp] theorem s_outany {k : Int → Out} : outR (.any k) = .any fun i => outR (k i) := rfl
/-- the body of a draw, M the numbers -/
def F_tk (M : List D → R D) : Rho → Out := (seqF (setDF 0 (bin2 opAdd (bndF drw1 (rdV 0)) (constF (.int 1)))) (seqF (retF (bin2 opMod (appL (Bi.ev .int) (consL (callF 2 0 (srcP 2) M (consL (bndF drw0 (rdV 0)) (consL (appL (Bi.ev .int) (consL (bndF drw1 (rdV 0)) nilL)) nilL)) nilL) nilL)) (rdP 1))) nxF))
theorem tk_ok {M : List D → R D} (hM : ∀ ns i, ∃ n : Int, M [.scr ns, .int i] = .ok (.int n)) (ns : List Int) (m : Nat) (hm : 0 < m) : Holds (runF 2 (F_tk M) [.drw ns, .int m]) (fun d => ∃ k : Nat, k < m ∧ d = .int k) := by
  have sp2 : srcP 2 = [.pos 0, .pos 1] := rfl
  have hm' : (0 : Int) < m := by omega
  have e : runF 2 (F_tk M) [.drw ns, .int m] = .any fun _ => .any fun n => (((M [.scr ns, .int n]).bind fun x => .ok [x]).bind (Bi.ev .int)).bind fun x => opMod x (.int m) := by
    simp [F_tk, startR, setDF, drw1, drw0, bindS, sp2, Src.ev]
  rw [e, holds_any]
  intro i0
  rw [holds_any]
  intro n
  obtain ⟨v, ev⟩ := hM ns n
  rw [ev]
  simp only [s_bok, s_int, opMod, hm', if_true, holds_okI]
  refine ⟨(v % m).toNat, ?_, ?_⟩
  · have := Int.emod_lt_of_pos v hm'
    have := Int.emod_nonneg v (b := (m : Int)) (by omega)
    omega
  · have := Int.emod_nonneg v (b := (m : Int)) (by omega)
    congr 1; omega
def F_pk (M : List D → R D) : Rho → Out := (seqF (retF (bin2 opIx (rdP 1) (callF 2 0 (srcP 2) M (consL (rdV 0) (consL (appL (Bi.ev .len) (consL (rdP 1) nilL)) nilL)) nilL))) nxF)
theorem pk_ok {M : List D → R D} (hM : ∀ ns (m : Nat), 0 < m → Holds (M [.drw ns, .int m]) (fun d => ∃ k : Nat, k < m ∧ d = .int k)) (ns : List Int) (l : List D) (hl : l ≠ []) : Holds (runF 2 (F_pk M) [.drw ns, .lst l]) (fun d => d ∈ l) := by
  have sp2 : srcP 2 = [.pos 0, .pos 1] := rfl
  have e : runF 2 (F_pk M) [.drw ns, .lst l] = (M [.drw ns, .int l.length]).bind fun y => opIx (.lst l) y := by
    simp [F_pk, startR, bindS, sp2, Src.ev]
  rw [e, holds_bind]
  refine (hM ns l.length (List.length_pos_iff.mpr hl)).mono fun d ⟨k, hk, ed⟩ => ?_
  subst ed
  have : atD l (k : Int) = .ok l[k] := at_nat (List.getElem?_eq_getElem hk)
  simp only [s_ixL, this, holds_okI]
  exact List.getElem_mem hk
end BV
set_option Elab.async false
set_option linter.all false
set_option maxRecDepth 100000
set_option maxHeartbeats 4000000
namespace K35
open PySem L2 PySem.Spec PyProof.Rows BV
def okPart : D → Bool
  | .non => true
  | .str x => decide (x.length ≤ 100)
  | _ => false
def okIdx : D → Bool
  | .non => true
  | .int n => decide (n.natAbs.log2 < 1920) && decide ((Str.ofString (toString n)).length ≤ 1000)
  | _ => false
def topS (i : Nat) : Stmt := PySem.Challenge.pw_wireclaims_k35_whole_alike_shown.main.body.getD i (.Pass ⟨0, 0, 0, 0⟩)
def clsBody : Stmt → List Stmt
  | .ClassDef (body := b) .. => b
  | _ => []
def subS (i j : Nat) : Stmt := (clsBody (topS i)).getD j (.Pass ⟨0, 0, 0, 0⟩)
def flds : Nat → List Str
  | 0 => [("row" : Str)]
  | 1 => [("part" : Str)]
  | 2 => [("legs" : Str)]
  | 3 => [("turns" : Str)]
  | _ => []
def subT : Nat → Nat → Bool := fun a b => a == b
def clsT : List Nat := [0, 2, 3]
def ecs : List Nat := [1]
def ecat (a : Nat) : Nat → Bool := fun c => ([] : List (Nat × Nat)).contains (c, a)
def c_MOST_ASKS : D := (.int 9)
def c_MOST_TELLS : D := (.int 3)
def c_PARTS : D := (.tup [(.str ("asks" : Str)), (.str ("tells" : Str)), (.str ("meets" : Str)), (.str ("stands" : Str)), (.str ("answers" : Str)), (.str ("again" : Str))])
def c_TURNS : D := (.tup [(.tup [(.str ("pick" : Str)), .non]), (.tup [(.str ("ask" : Str)), .non]), (.tup [(.str ("take" : Str)), .non]), (.tup [(.str ("tell" : Str)), .non]), (.tup [(.str ("leave" : Str)), .non]), (.tup [(.str ("ask" : Str)), (.str ("greater" : Str))]), (.tup [(.str ("ask" : Str)), (.str ("lesser" : Str))]), (.tup [(.str ("tell" : Str)), (.str ("greater" : Str))]), (.tup [(.str ("tell" : Str)), (.str ("lesser" : Str))]), (.tup [(.str ("answer" : Str)), (.str ("greater" : Str))]), (.tup [(.str ("answer" : Str)), (.str ("lesser" : Str))])])
def c_WORDS : D := (.tup [(.str ("lesser" : Str)), (.str ("stay" : Str)), (.str ("yield" : Str))])
def al_legs : List (Nat × Option Nat) := [(2, none)]
def MA_legs : Nat → List D → R D := fun _ _ => .stuck
def al_row : List (Nat × Option Nat) := [(0, none)]
def MA_row : Nat → List D → R D := fun _ _ => .stuck
def al_turns : List (Nat × Option Nat) := [(3, none)]
def MA_turns : Nat → List D → R D := fun _ _ => .stuck
abbrev s_law_number : Stmt := topS 29
def N_law_number : List Str := [("_law_script" : Str), ("_law_index" : Str), ("_law_cells" : Str), ("_law_cell" : Str), ("_law_low" : Str), ("_law_high" : Str), ("_law_total" : Str), ("_law_blend" : Str)]
def F_law_number : Rho → Out := (seqF (letF 2 (iteV (tst (bin2 opNe (rdP 0) (mkL nilL))) (slF (rdP 0) noneF (someF (constF (.int 63)))) (mkL (consL (constF (.int 5)) nilL)))) (seqF (letF 3 (bin2 opAdd (bin2 opIx (rdP 2) (bin2 opMod (appL (Bi.ev .int) (consL (rdP 1) nilL)) (appL (Bi.ev .len) (consL (rdP 2) nilL)))) (bin2 opMul (constF (.int 13)) (bin2 opFdiv (rdP 1) (appL (Bi.ev .len) (consL (rdP 2) nilL)))))) (seqF (par2 4 5 false false (bin2 opMod (appL (Bi.ev .int) (consL (rdP 3) nilL)) (constF (.int 1000003))) (bin2 opMod (appL (Bi.ev .int) (consL (bin2 opFdiv (rdP 3) (constF (.int 1000003))) nilL)) (constF (.int 999983)))) (seqF (letF 6 (bin2 opMod (appL (Bi.ev .int) (consL (appL (Bi.ev .sum) (consL (rdP 2) nilL)) nilL)) (constF (.int 65521)))) (seqF (letF 7 (bin2 opMod (appL (Bi.ev .int) (consL (bin2 opAdd (bin2 opAdd (bin2 opMul (bin2 opAdd (rdP 4) (bin2 opMul (constF (.int 977)) (rdP 1))) (constF (.int 48271))) (bin2 opMul (constF (.int 31)) (rdP 5))) (rdP 6)) nilL)) (constF (.int 2147483647)))) (seqF (retF (bin2 opAdd (bin2 opMul (bin2 opMod (appL (Bi.ev .int) (consL (bin2 opMul (rdP 7) (bin2 opAdd (bin2 opAdd (rdP 7) (bin2 opMul (constF (.int 31)) (rdP 1))) (constF (.int 7)))) nilL)) (constF (.int 2147483629))) (constF (.int 65537))) (rdP 5))) nxF))))))
def M_law_number : List D → R D := runF 8 F_law_number
abbrev s_law_take : Stmt := topS 30
def N_law_take : List Str := [("_law_draw" : Str), ("_law_many" : Str)]
def F_law_take : Rho → Out := (seqF (setDF 0 (bin2 opAdd (bndF drw1 (rdV 0)) (constF (.int 1)))) (seqF (retF (bin2 opMod (appL (Bi.ev .int) (consL (callF 2 0 (srcP 2) M_law_number (consL (bndF drw0 (rdV 0)) (consL (appL (Bi.ev .int) (consL (bndF drw1 (rdV 0)) nilL)) nilL)) nilL) nilL)) (rdP 1))) nxF))
def M_law_take : List D → R D := runF 2 F_law_take
abbrev s_law_pick : Stmt := topS 31
def N_law_pick : List Str := [("_law_draw" : Str), ("_law_things" : Str)]
def F_law_pick : Rho → Out := (seqF (retF (bin2 opIx (rdP 1) (callF 2 0 (srcP 2) M_law_take (consL (rdV 0) (consL (appL (Bi.ev .len) (consL (rdP 1) nilL)) nilL)) nilL))) nxF)
def M_law_pick : List D → R D := runF 2 F_law_pick
abbrev s_law_words : Stmt := topS 32
def N_law_words : List Str := [("_law_draw" : Str), ("_law_rows" : Str)]
def F_law_words : Rho → Out := (seqF (letF 1 (mkL (consL (mkT (consL (constF (.str ("yield" : Str))) nilL)) (consL (mkT (consL (constF (.str ("lesser" : Str))) nilL)) (consL (mkT (consL (constF (.str ("stay" : Str))) nilL)) (consL (mkT (consL (constF (.str ("yield" : Str))) (consL (constF (.str ("stay" : Str))) nilL))) (consL (mkT (consL (constF (.str ("lesser" : Str))) (consL (constF (.str ("yield" : Str))) nilL))) (consL (mkT (consL (constF (.str ("yield" : Str))) (consL (constF (.str ("lesser" : Str))) (consL (constF (.str ("stay" : Str))) nilL)))) nilL)))))))) (seqF (retF (callF 2 0 (srcP 2) M_law_pick (consL (rdV 0) (consL (bin2 opAdd (rdP 1) (mkL (consL (mkT (consL (constF (.str ("yield" : Str))) (consL (constF (.str ("yield" : Str))) nilL))) (consL (mkT (consL (constF (.str ("stay" : Str))) (consL (constF (.str ("yield" : Str))) nilL))) (consL (mkT (consL (constF (.str ("lesser" : Str))) (consL (constF (.str ("lesser" : Str))) nilL))) nilL))))) nilL)) nilL)) nxF))
def M_law_words : List D → R D := runF 2 F_law_words
abbrev s_law_parts : Stmt := topS 33
def N_law_parts : List Str := [("_law_draw" : Str), ("_law_asks" : Str), ("_law_tells" : Str)]
def F_law_parts : Rho → Out := (seqF (par2 1 2 false false (callF 2 0 (srcP 2) M_law_pick (consL (rdV 0) (consL (mkL (consL (constF (.int 1)) (consL (constF (.int 1)) (consL (constF (.int 0)) (consL (constF (.int 2)) nilL))))) nilL)) nilL) (callF 2 0 (srcP 2) M_law_pick (consL (rdV 0) (consL (mkL (consL (constF (.int 1)) (consL (constF (.int 0)) (consL (constF (.int 1)) (consL (constF (.int 2)) nilL))))) nilL)) nilL)) (seqF (retF (mkT (consL (rdV 1) (consL (rdV 2) (consL (callF 1 0 (srcP 1) M_law_words (consL (rdV 0) nilL) nilL) (consL (callF 1 0 (srcP 1) M_law_words (consL (rdV 0) nilL) nilL) (consL (bin2 (opCmp fun i j => decide (j < i)) (callF 2 0 (srcP 2) M_law_take (consL (rdV 0) (consL (constF (.int 4)) nilL)) nilL) (constF (.int 0))) (consL (bin2 (opCmp fun i j => decide (j < i)) (callF 2 0 (srcP 2) M_law_take (consL (rdV 0) (consL (constF (.int 3)) nilL)) nilL) (constF (.int 0))) nilL)))))))) nxF))
def M_law_parts : List D → R D := runF 3 F_law_parts
abbrev s_law_turns : Stmt := topS 38
def N_law_turns : List Str := [("_law_found" : Str), ("_law_word" : Str)]
def F_law_turns : Rho → Out := (seqF (letF 0 (lcF (.n 1) [1] yesF (mkT (consL (rdV 1) (consL (constF .non) nilL))) (itSeq (mkT (consL (constF (.str ("pick" : Str))) (consL (constF (.str ("ask" : Str))) (consL (constF (.str ("take" : Str))) (consL (constF (.str ("tell" : Str))) (consL (constF (.str ("leave" : Str))) nilL))))))))) (seqF (forF (.n 1) (itSeq (mkT (consL (constF (.str ("ask" : Str))) (consL (constF (.str ("tell" : Str))) (consL (constF (.str ("answer" : Str))) nilL))))) (seqF (letF 0 (bin2 opAdd (rdP 0) (mkL (consL (mkT (consL (rdV 1) (consL (constF (.str ("greater" : Str))) nilL))) (consL (mkT (consL (rdV 1) (consL (constF (.str ("lesser" : Str))) nilL))) nilL))))) nxF)) (seqF (retF (rdP 0)) nxF)))
def M_law_turns : List D → R D := runF 2 F_law_turns
abbrev s_law_own : Stmt := topS 36
def N_law_own : List Str := [("_law_parts_here" : Str), ("_law_state" : Str), ("_law_word" : Str)]
def F_law_own : Rho → Out := (seqF (ifF (tst (bin2 opEq (bin2 opIx (rdP 1) (constF (.int 0))) (constF (.str ("free" : Str))))) (seqF (retF (iteV (tst (bin2 opEq (rdP 2) (constF (.str ("pick" : Str))))) (mkT (consL (constF (.str ("ask" : Str))) (consL (bin2 opIx (rdP 0) (constF (.int 0))) (consL (bin2 opIx (rdP 1) (constF (.int 1))) nilL)))) (constF .non))) nxF) nxF) (seqF (ifF (tst (bin2 opEq (rdP 2) (constF (.str ("leave" : Str))))) (seqF (retF (mkT (consL (constF (.str ("free" : Str))) (consL (iteV (tst (bin2 opEq (bin2 opIx (rdP 1) (constF (.int 0))) (constF (.str ("ask" : Str))))) (bin2 opIx (rdP 1) (constF (.int 2))) (constF (.int 0))) nilL)))) nxF) nxF) (seqF (ifF (tst (bin2 opEq (bin2 opIx (rdP 1) (constF (.int 0))) (constF (.str ("ask" : Str))))) (seqF (ifF (tst (bin2 (opCmp fun i j => decide (j < i)) (bin2 opIx (rdP 1) (constF (.int 1))) (constF (.int 0)))) (seqF (retF (iteV (tst (bin2 opEq (rdP 2) (constF (.str ("ask" : Str))))) (mkT (consL (constF (.str ("ask" : Str))) (consL (bin2 opSub (bin2 opIx (rdP 1) (constF (.int 1))) (constF (.int 1))) (consL (bin2 opIx (rdP 1) (constF (.int 2))) nilL)))) (constF .non))) nxF) nxF) (seqF (retF (iteV (tst (bin2 opEq (rdP 2) (constF (.str ("take" : Str))))) (mkT (consL (constF (.str ("hold" : Str))) (consL (bin2 opIx (rdP 0) (constF (.int 1))) (consL (constF (.int 0)) nilL)))) (constF .non))) nxF)) nxF) (seqF (ifF (orB (tst (bin2 opNe (rdP 2) (constF (.str ("tell" : Str))))) (andB (tst (bin2 opEq (bin2 opIx (rdP 1) (constF (.int 1))) (constF (.int 0)))) (notB (tst (bin2 opIx (rdP 0) (constF (.int 5))))))) (seqF (retF (constF .non)) nxF) nxF) (seqF (retF (mkT (consL (constF (.str ("hold" : Str))) (consL (appL (Bi.ev .max2) (consL (constF (.int 0)) (consL (bin2 opSub (bin2 opIx (rdP 1) (constF (.int 1))) (constF (.int 1))) nilL))) (consL (bin2 opIx (rdP 1) (constF (.int 2))) nilL))))) nxF)))))
def M_law_own : List D → R D := runF 3 F_law_own
abbrev s_law_heard : Stmt := topS 35
def N_law_heard : List Str := [("_law_parts_here" : Str), ("_law_state" : Str), ("_law_letter" : Str), ("_law_is_less" : Str), ("_law_words_here" : Str), ("_law_word" : Str), ("_law_top" : Str), ("_law_gives" : Str)]
def F_law_heard : Rho → Out := (seqF (ifF (orB (tst (bin2 opEq (bin2 opIx (rdP 1) (constF (.int 0))) (constF (.str ("free" : Str))))) (andB (tst (bin2 opEq (bin2 opIx (rdP 1) (constF (.int 0))) (constF (.str ("hold" : Str))))) (tst (bin2 opNe (rdP 2) (constF (.str ("tell" : Str))))))) (seqF (retF (rdP 1)) nxF) nxF) (seqF (letF 4 (iteV (tst (bin2 opEq (bin2 opIx (rdP 1) (constF (.int 0))) (constF (.str ("hold" : Str))))) (bin2 opIx (rdP 0) (constF (.int 3))) (bin2 opIx (rdP 0) (constF (.int 2))))) (seqF (par2 5 6 false false (bin2 opIx (rdP 4) (bin2 opIx (rdP 1) (constF (.int 2)))) (bin2 opSub (appL (Bi.ev .len) (consL (rdP 4) nilL)) (constF (.int 1)))) (seqF (letF 7 (orV (bin2 opEq (rdP 5) (constF (.str ("yield" : Str)))) (andV (bin2 opEq (rdP 5) (constF (.str ("lesser" : Str)))) (rdV 3)))) (seqF (ifF (tst (bin2 opEq (bin2 opIx (rdP 1) (constF (.int 0))) (constF (.str ("hold" : Str))))) (seqF (retF (iteV (tst (rdV 7)) (mkT (consL (constF (.str ("free" : Str))) (consL (constF (.int 0)) nilL))) (mkT (consL (constF (.str ("hold" : Str))) (consL (appL (Bi.ev .max2) (consL (constF (.int 1)) (consL (bin2 opIx (rdP 1) (constF (.int 1))) nilL))) (consL (appL (Bi.ev .min2) (consL (rdP 6) (consL (bin2 opAdd (bin2 opIx (rdP 1) (constF (.int 2))) (constF (.int 1))) nilL))) nilL)))))) nxF) nxF) (seqF (ifF (tst (bin2 opNe (rdP 2) (constF (.str ("ask" : Str))))) (seqF (retF (mkT (consL (constF (.str ("free" : Str))) (consL (bin2 opIx (rdP 1) (constF (.int 2))) nilL)))) nxF) nxF) (seqF (retF (iteV (tst (rdV 7)) (mkT (consL (constF (.str ("free" : Str))) (consL (appL (Bi.ev .min2) (consL (rdP 6) (consL (bin2 opAdd (bin2 opIx (rdP 1) (constF (.int 2))) (constF (.int 1))) nilL))) nilL))) (rdV 1))) nxF)))))))
def M_law_heard : List D → R D := runF 8 F_law_heard
abbrev s_law_turn : Stmt := topS 37
def N_law_turn : List Str := [("_law_parts_here" : Str), ("_law_state" : Str), ("_law_turn_here" : Str), ("_law_word" : Str), ("_law_side" : Str), ("_law_late" : Str)]
def F_law_turn : Rho → Out := (seqF (tgtF (.t [3, 4]) (rdV 2)) (seqF (ifF (tst (bin2 opIsN (rdP 4) (constF .non))) (seqF (letF 5 (callF 3 0 (srcP 3) M_law_own (consL (rdV 0) (consL (rdV 1) (consL (rdV 3) nilL))) nilL)) (seqF (retF (iteV (tst (bin2 opIsN (rdP 5) (constF .non))) (constF .non) (mkT (consL (rdV 5) (consL (mkT (consL (bin2 opIx (rdP 5) (constF (.int 0))) (consL (constF (.bl false)) nilL))) nilL))))) nxF)) nxF) (seqF (ifF (orB (tst (bin2 opEq (bin2 opIx (rdP 1) (constF (.int 0))) (constF (.str ("free" : Str))))) (andB (tst (bin2 opEq (rdP 3) (constF (.str ("answer" : Str))))) (tst (bin2 opEq (bin2 opIx (rdP 1) (constF (.int 0))) (constF (.str ("hold" : Str))))))) (seqF (retF (constF .non)) nxF) nxF) (seqF (letF 5 (callF 4 0 (srcP 4) M_law_heard (consL (rdV 0) (consL (rdV 1) (consL (rdV 3) (consL (bin2 opEq (rdP 4) (constF (.str ("lesser" : Str)))) nilL)))) nilL)) (seqF (retF (mkT (consL (rdV 5) (consL (mkT (consL (bin2 opIx (rdP 5) (constF (.int 0))) (consL (andV (bin2 opIx (rdP 0) (constF (.int 4))) (andV (bin2 opNe (bin2 opIx (rdP 5) (constF (.int 0))) (constF (.str ("free" : Str)))) (bin2 opEq (rdP 3) (constF (.str ("ask" : Str)))))) nilL))) nilL)))) nxF)))))
def M_law_turn : List D → R D := runF 6 F_law_turn
abbrev s_law_parted : Stmt := topS 39
def N_law_parted : List Str := [("_law_one" : Str), ("_law_other" : Str), ("_law_both" : Str), ("_law_turn_here" : Str), ("_law_first" : Str), ("_law_second" : Str)]
def F_law_parted : Rho → Out := (seqF (par2 4 5 false false (callF 3 0 (srcP 3) M_law_turn (consL (rdV 0) (consL (bin2 opIx (rdP 2) (constF (.int 0))) (consL (rdV 3) nilL))) nilL) (callF 3 0 (srcP 3) M_law_turn (consL (rdV 1) (consL (bin2 opIx (rdP 2) (constF (.int 1))) (consL (rdV 3) nilL))) nilL)) (seqF (ifF (orB (tst (bin2 opIsN (rdP 4) (constF .non))) (tst (bin2 opIsN (rdP 5) (constF .non)))) (seqF (retF (mkT (consL (bin2 opNe (bin2 opIsN (rdP 4) (constF .non)) (bin2 opIsN (rdP 5) (constF .non))) (consL (constF .non) nilL)))) nxF) nxF) (seqF (retF (mkT (consL (bin2 opNe (bin2 opIx (rdP 4) (constF (.int 1))) (bin2 opIx (rdP 5) (constF (.int 1)))) (consL (mkT (consL (bin2 opIx (rdP 4) (constF (.int 0))) (consL (bin2 opIx (rdP 5) (constF (.int 0))) nilL))) nilL)))) nxF)))
def M_law_parted : List D → R D := runF 6 F_law_parted
abbrev s_law_reach : Stmt := topS 40
def N_law_reach : List Str := [("_law_one" : Str), ("_law_other" : Str), ("_law_start" : Str), ("_law_found" : Str), ("_law_waiting" : Str), ("_law_both" : Str), ("_law_turn_here" : Str), ("_law_late" : Str)]
def F_law_reach : Rho → Out := (seqF (letF 2 (mkT (consL (mkT (consL (constF (.str ("free" : Str))) (consL (constF (.int 0)) nilL))) (consL (mkT (consL (constF (.str ("free" : Str))) (consL (constF (.int 0)) nilL))) nilL)))) (seqF (par2 3 4 true true (appL biDictP (consL (mkL (consL (mkT (consL (rdV 2) (consL (mkL nilL) nilL))) nilL)) nilL)) (mkL (consL (rdV 2) nilL))) (seqF (whGo (tst (bin2 opNe (rdP 4) (mkL nilL))) (seqF (popAtF 5 4 (constF (.int 0))) (seqF (forF (.n 6) (itSeq (callF 0 0 (srcP 0) M_law_turns nilL nilL)) (seqF (letF 7 (bin2 opIx (callF 4 0 (srcP 4) M_law_parted (consL (rdV 0) (consL (rdV 1) (consL (rdV 5) (consL (rdV 6) nilL)))) nilL) (constF (.int 1)))) (seqF (ifF (andB (tst (bin2 opNotN (rdP 7) (constF .non))) (tst (bin2 opNinK (rdP 7) (rdP 3)))) (seqF (setKF 3 (rdV 7) (bin2 opAdd (bin2 opIxK (rdP 3) (rdP 5)) (mkL (consL (rdV 6) nilL)))) (seqF (appF 4 (rdV 7)) nxF)) nxF) nxF))) nxF)) 100000) (seqF (retF (rdP 3)) nxF))))
def M_law_reach : List D → R D := runF 8 F_law_reach
abbrev s_are_words : Stmt := topS 10
def N_are_words : List Str := [("value" : Str), ("one" : Str)]
def F_are_words : Rho → Out := (seqF (ifF (orB (notB (tst (bndF (isiF subT clsT [.b "tuple"]) (rdP 0)))) (notB (tst (chn (opCmp fun i j => decide (i ≤ j)) (opCmp fun i j => decide (i ≤ j)) (constF (.int 1)) (appL (Bi.ev .len) (consL (rdP 0) nilL)) (constF (.int 3)))))) (seqF (retF (constF (.bl false))) nxF) nxF) (seqF (retF (appL (Bi.ev .all) (consL (lcF (.n 1) [1] yesF (andV (bndF (isiF subT clsT [.b "str"]) (rdP 1)) (bin2 opIn2 (rdP 1) (constF c_WORDS))) (itSeq (rdV 0))) nilL))) nxF))
def M_are_words : List D → R D := runF 2 F_are_words
abbrev s_is_whole : Stmt := topS 9
def N_is_whole : List Str := [("value" : Str), ("low" : Str), ("high" : Str)]
def F_is_whole : Rho → Out := (seqF (retF (andV (bndF (isiF subT clsT [.b "int"]) (rdP 0)) (andV (notV (bndF (isiF subT clsT [.b "bool"]) (rdP 0))) (chn (opCmp fun i j => decide (i ≤ j)) (opCmp fun i j => decide (i ≤ j)) (rdP 1) (rdP 0) (rdP 2))))) nxF)
def M_is_whole : List D → R D := runF 3 F_is_whole
abbrev s_wrong_part : Stmt := topS 11
def N_wrong_part : List Str := [("row" : Str), ("good" : Str), ("part" : Str), ("is_so" : Str)]
def F_wrong_part : Rho → Out := (seqF (letF 1 (mkL (consL (callF 3 0 (srcP 3) M_is_whole (consL (bin2 opIx (rdP 0) (constF (.int 0))) (consL (constF (.int 0)) (consL (constF c_MOST_ASKS) nilL))) nilL) (consL (callF 3 0 (srcP 3) M_is_whole (consL (bin2 opIx (rdP 0) (constF (.int 1))) (consL (constF (.int 0)) (consL (constF c_MOST_TELLS) nilL))) nilL) (consL (callF 1 0 (srcP 1) M_are_words (consL (bin2 opIx (rdP 0) (constF (.int 2))) nilL) nilL) (consL (callF 1 0 (srcP 1) M_are_words (consL (bin2 opIx (rdP 0) (constF (.int 3))) nilL) nilL) nilL)))))) (seqF (letF 1 (bin2 opAdd (rdP 1) (mkL (consL (bndF (isiF subT clsT [.b "bool"]) (bin2 opIx (rdP 0) (constF (.int 4)))) (consL (bndF (isiF subT clsT [.b "bool"]) (bin2 opIx (rdP 0) (constF (.int 5)))) nilL))))) (seqF (forF (.t [2, 3]) (itZip (constF c_PARTS) (rdV 1)) (seqF (ifF (notB (tst (rdV 3))) (seqF (retF (rdP 2)) nxF) nxF) nxF)) (seqF (retF (constF .non)) nxF))))
def M_wrong_part : List D → R D := runF 4 F_wrong_part
abbrev s_Rule_init : Stmt := subS 12 0
def N_Rule_init : List Str := [("self" : Str), ("asks" : Str), ("tells" : Str), ("meets" : Str), ("stands" : Str), ("answers" : Str), ("again" : Str), ("row" : Str), ("part" : Str)]
def F_Rule_init : Rho → Out := (seqF (letF 7 (mkT (consL (rdV 1) (consL (rdV 2) (consL (rdV 3) (consL (rdV 4) (consL (rdV 5) (consL (rdV 6) nilL)))))))) (seqF (letF 8 (callF 1 0 (srcP 1) M_wrong_part (consL (rdV 7) nilL) nilL)) (seqF (ifF (tst (bin2 opNotN (rdP 8) (constF .non))) (seqF (raise1 1 okPart (rdV 8)) nxF) nxF) (seqF (setfF 0 0 (rdV 7)) nxF))))
def MI_Rule_init : List D → R (List D) := runI 9 0 1 F_Rule_init
def shp_Rule_init_all : Shp := ⟨14, 3, [("meets" : Str), ("stands" : Str), ("answers" : Str), ("again" : Str)], srcP 3 ++ srcK 4⟩
abbrev s_law_made : Stmt := topS 34
def N_law_made : List Str := [("_law_parts_here" : Str)]
def F_law_made : Rho → Out := (seqF (retF (mkG 0 shp_Rule_init_all MI_Rule_init (consL (bin2 opIx (rdP 0) (constF (.int 0))) (consL (bin2 opIx (rdP 0) (constF (.int 1))) nilL)) (consL (bin2 opIx (rdP 0) (constF (.int 2))) (consL (bin2 opIx (rdP 0) (constF (.int 3))) (consL (bin2 opIx (rdP 0) (constF (.int 4))) (consL (bin2 opIx (rdP 0) (constF (.int 5))) nilL)))))) nxF)
def M_law_made : List D → R D := runF 1 F_law_made
abbrev s_check_rule : Stmt := topS 15
def N_check_rule : List Str := [("value" : Str)]
def F_check_rule : Rho → Out := (seqF (ifF (notB (tst (bndF (isiF subT clsT [.c 0]) (rdP 0)))) (seqF (raise0 1) nxF) nxF) nxF)
def M_check_rule : List D → R D := runF 1 F_check_rule
abbrev s_check_two : Stmt := topS 25
def N_check_two : List Str := [("one" : Str), ("other" : Str)]
def F_check_two : Rho → Out := (seqF (exprF (callF 1 0 (srcP 1) M_check_rule (consL (rdV 0) nilL) nilL)) (seqF (exprF (callF 1 0 (srcP 1) M_check_rule (consL (rdV 1) nilL) nilL)) nxF))
def M_check_two : List D → R D := runF 2 F_check_two
abbrev s_Rule_asks : Stmt := subS 12 1
def N_Rule_asks : List Str := [("self" : Str)]
def F_Rule_asks : Rho → Out := (seqF (retF (bin2 opIx (bndF (evA flds MA_row ("row" : Str) al_row) (rdV 0)) (constF (.int 0)))) nxF)
def M_Rule_asks : List D → R D := runF 1 F_Rule_asks
def al_asks : List (Nat × Option Nat) := [(0, some 18)]
def MA_asks : Nat → List D → R D := fun _ => M_Rule_asks
abbrev s_Rule_tells : Stmt := subS 12 2
def N_Rule_tells : List Str := [("self" : Str)]
def F_Rule_tells : Rho → Out := (seqF (retF (bin2 opIx (bndF (evA flds MA_row ("row" : Str) al_row) (rdV 0)) (constF (.int 1)))) nxF)
def M_Rule_tells : List D → R D := runF 1 F_Rule_tells
def al_tells : List (Nat × Option Nat) := [(0, some 19)]
def MA_tells : Nat → List D → R D := fun _ => M_Rule_tells
abbrev s_Rule_again : Stmt := subS 12 6
def N_Rule_again : List Str := [("self" : Str)]
def F_Rule_again : Rho → Out := (seqF (retF (bin2 opIx (bndF (evA flds MA_row ("row" : Str) al_row) (rdV 0)) (constF (.int 5)))) nxF)
def M_Rule_again : List D → R D := runF 1 F_Rule_again
def al_again : List (Nat × Option Nat) := [(0, some 20)]
def MA_again : Nat → List D → R D := fun _ => M_Rule_again
abbrev s_own : Stmt := topS 20
def N_own : List Str := [("rule" : Str), ("state" : Str), ("word" : Str), ("can" : Str)]
def F_own : Rho → Out := (seqF (ifF (tst (bin2 opEq (rdP 2) (constF (.str ("pick" : Str))))) (seqF (retF (iteV (tst (bin2 opEq (bin2 opIx (rdP 1) (constF (.int 0))) (constF (.str ("free" : Str))))) (mkT (consL (constF (.str ("ask" : Str))) (consL (bndF (evA flds MA_asks ("asks" : Str) al_asks) (rdV 0)) (consL (bin2 opIx (rdP 1) (constF (.int 1))) nilL)))) (constF .non))) nxF) nxF) (seqF (ifF (tst (bin2 opEq (rdP 2) (constF (.str ("ask" : Str))))) (seqF (retF (iteV (andB (tst (bin2 opEq (bin2 opIx (rdP 1) (constF (.int 0))) (constF (.str ("ask" : Str))))) (tst (bin2 (opCmp fun i j => decide (j < i)) (bin2 opIx (rdP 1) (constF (.int 1))) (constF (.int 0))))) (mkT (consL (constF (.str ("ask" : Str))) (consL (bin2 opSub (bin2 opIx (rdP 1) (constF (.int 1))) (constF (.int 1))) (consL (bin2 opIx (rdP 1) (constF (.int 2))) nilL)))) (constF .non))) nxF) nxF) (seqF (ifF (tst (bin2 opEq (rdP 2) (constF (.str ("take" : Str))))) (seqF (retF (iteV (andB (tst (bin2 opEq (bin2 opIx (rdP 1) (constF (.int 0))) (constF (.str ("ask" : Str))))) (tst (bin2 opEq (bin2 opIx (rdP 1) (constF (.int 1))) (constF (.int 0))))) (mkT (consL (constF (.str ("hold" : Str))) (consL (bndF (evA flds MA_tells ("tells" : Str) al_tells) (rdV 0)) (consL (constF (.int 0)) nilL)))) (constF .non))) nxF) nxF) (seqF (ifF (tst (bin2 opEq (rdP 2) (constF (.str ("tell" : Str))))) (seqF (letF 3 (andV (bin2 opEq (bin2 opIx (rdP 1) (constF (.int 0))) (constF (.str ("hold" : Str)))) (orV (bin2 (opCmp fun i j => decide (j < i)) (bin2 opIx (rdP 1) (constF (.int 1))) (constF (.int 0))) (bndF (evA flds MA_again ("again" : Str) al_again) (rdV 0))))) (seqF (retF (iteV (tst (rdV 3)) (mkT (consL (constF (.str ("hold" : Str))) (consL (appL (Bi.ev .max2) (consL (bin2 opSub (bin2 opIx (rdP 1) (constF (.int 1))) (constF (.int 1))) (consL (constF (.int 0)) nilL))) (consL (bin2 opIx (rdP 1) (constF (.int 2))) nilL)))) (constF .non))) nxF)) nxF) (seqF (ifF (tst (bin2 opEq (bin2 opIx (rdP 1) (constF (.int 0))) (constF (.str ("free" : Str))))) (seqF (retF (constF .non)) nxF) nxF) (seqF (retF (mkT (consL (constF (.str ("free" : Str))) (consL (iteV (tst (bin2 opEq (bin2 opIx (rdP 1) (constF (.int 0))) (constF (.str ("ask" : Str))))) (bin2 opIx (rdP 1) (constF (.int 2))) (constF (.int 0))) nilL)))) nxF))))))
def M_own : List D → R D := runF 4 F_own
abbrev s_gives_way : Stmt := topS 17
def N_gives_way : List Str := [("word" : Str), ("is_lesser" : Str)]
def F_gives_way : Rho → Out := (seqF (retF (orV (bin2 opEq (rdP 0) (constF (.str ("yield" : Str)))) (andV (bin2 opEq (rdP 0) (constF (.str ("lesser" : Str)))) (rdV 1)))) nxF)
def M_gives_way : List D → R D := runF 2 F_gives_way
abbrev s_Rule_meets : Stmt := subS 12 3
def N_Rule_meets : List Str := [("self" : Str)]
def F_Rule_meets : Rho → Out := (seqF (retF (bin2 opIx (bndF (evA flds MA_row ("row" : Str) al_row) (rdV 0)) (constF (.int 2)))) nxF)
def M_Rule_meets : List D → R D := runF 1 F_Rule_meets
def al_meets : List (Nat × Option Nat) := [(0, some 23)]
def MA_meets : Nat → List D → R D := fun _ => M_Rule_meets
abbrev s_Rule_stands : Stmt := subS 12 4
def N_Rule_stands : List Str := [("self" : Str)]
def F_Rule_stands : Rho → Out := (seqF (retF (bin2 opIx (bndF (evA flds MA_row ("row" : Str) al_row) (rdV 0)) (constF (.int 3)))) nxF)
def M_Rule_stands : List D → R D := runF 1 F_Rule_stands
def al_stands : List (Nat × Option Nat) := [(0, some 24)]
def MA_stands : Nat → List D → R D := fun _ => M_Rule_stands
abbrev s_heard : Stmt := topS 18
def N_heard : List Str := [("rule" : Str), ("state" : Str), ("letter" : Str), ("is_lesser" : Str)]
def F_heard : Rho → Out := (seqF (ifF (andB (tst (bin2 opEq (bin2 opIx (rdP 1) (constF (.int 0))) (constF (.str ("ask" : Str))))) (tst (bin2 opEq (rdP 2) (constF (.str ("ask" : Str)))))) (seqF (ifF (tst (callF 2 0 (srcP 2) M_gives_way (consL (bin2 opIx (bndF (evA flds MA_meets ("meets" : Str) al_meets) (rdV 0)) (bin2 opIx (rdP 1) (constF (.int 2)))) (consL (rdV 3) nilL)) nilL)) (seqF (retF (mkT (consL (mkT (consL (constF (.str ("free" : Str))) (consL (appL (Bi.ev .min2) (consL (bin2 opAdd (bin2 opIx (rdP 1) (constF (.int 2))) (constF (.int 1))) (consL (bin2 opSub (appL (Bi.ev .len) (consL (bndF (evA flds MA_meets ("meets" : Str) al_meets) (rdV 0)) nilL)) (constF (.int 1))) nilL))) nilL))) (consL (constF (.bl true)) nilL)))) nxF) nxF) (seqF (retF (mkT (consL (rdV 1) (consL (constF (.bl false)) nilL)))) nxF)) nxF) (seqF (ifF (tst (bin2 opEq (bin2 opIx (rdP 1) (constF (.int 0))) (constF (.str ("ask" : Str))))) (seqF (retF (mkT (consL (mkT (consL (constF (.str ("free" : Str))) (consL (bin2 opIx (rdP 1) (constF (.int 2))) nilL))) (consL (constF (.bl true)) nilL)))) nxF) nxF) (seqF (ifF (andB (tst (bin2 opEq (bin2 opIx (rdP 1) (constF (.int 0))) (constF (.str ("hold" : Str))))) (tst (bin2 opEq (rdP 2) (constF (.str ("tell" : Str)))))) (seqF (ifF (tst (callF 2 0 (srcP 2) M_gives_way (consL (bin2 opIx (bndF (evA flds MA_stands ("stands" : Str) al_stands) (rdV 0)) (bin2 opIx (rdP 1) (constF (.int 2)))) (consL (rdV 3) nilL)) nilL)) (seqF (retF (mkT (consL (mkT (consL (constF (.str ("free" : Str))) (consL (constF (.int 0)) nilL))) (consL (constF (.bl true)) nilL)))) nxF) nxF) (seqF (retF (mkT (consL (mkT (consL (constF (.str ("hold" : Str))) (consL (appL (Bi.ev .max2) (consL (bin2 opIx (rdP 1) (constF (.int 1))) (consL (constF (.int 1)) nilL))) (consL (appL (Bi.ev .min2) (consL (bin2 opAdd (bin2 opIx (rdP 1) (constF (.int 2))) (constF (.int 1))) (consL (bin2 opSub (appL (Bi.ev .len) (consL (bndF (evA flds MA_stands ("stands" : Str) al_stands) (rdV 0)) nilL)) (constF (.int 1))) nilL))) nilL)))) (consL (constF (.bl false)) nilL)))) nxF)) nxF) (seqF (retF (mkT (consL (rdV 1) (consL (constF (.bl false)) nilL)))) nxF))))
def M_heard : List D → R D := runF 4 F_heard
abbrev s_Rule_answers : Stmt := subS 12 5
def N_Rule_answers : List Str := [("self" : Str)]
def F_Rule_answers : Rho → Out := (seqF (retF (bin2 opIx (bndF (evA flds MA_row ("row" : Str) al_row) (rdV 0)) (constF (.int 4)))) nxF)
def M_Rule_answers : List D → R D := runF 1 F_Rule_answers
def al_answers : List (Nat × Option Nat) := [(0, some 26)]
def MA_answers : Nat → List D → R D := fun _ => M_Rule_answers
abbrev s_replies : Stmt := topS 19
def N_replies : List Str := [("rule" : Str), ("state" : Str), ("is_lesser" : Str)]
def F_replies : Rho → Out := (seqF (ifF (andB (tst (bin2 opEq (bin2 opIx (rdP 1) (constF (.int 0))) (constF (.str ("ask" : Str))))) (tst (callF 2 0 (srcP 2) M_gives_way (consL (bin2 opIx (bndF (evA flds MA_meets ("meets" : Str) al_meets) (rdV 0)) (bin2 opIx (rdP 1) (constF (.int 2)))) (consL (rdV 2) nilL)) nilL))) (seqF (retF (constF (.bl false))) nxF) nxF) (seqF (retF (andV (bndF (evA flds MA_answers ("answers" : Str) al_answers) (rdV 0)) (bin2 opNe (bin2 opIx (rdP 1) (constF (.int 0))) (constF (.str ("free" : Str)))))) nxF))
def M_replies : List D → R D := runF 3 F_replies
abbrev s_turned : Stmt := topS 26
def N_turned : List Str := [("rule" : Str), ("state" : Str), ("turn" : Str), ("word" : Str), ("side" : Str), ("late" : Str)]
def F_turned : Rho → Out := (seqF (tgtF (.t [3, 4]) (rdV 2)) (seqF (ifF (tst (bin2 opIsN (rdP 4) (constF .non))) (seqF (letF 5 (callF 3 0 (srcP 3) M_own (consL (rdV 0) (consL (rdV 1) (consL (rdV 3) nilL))) nilL)) (seqF (retF (iteV (tst (bin2 opIsN (rdP 5) (constF .non))) (constF .non) (mkT (consL (rdV 5) (consL (mkT (consL (bin2 opIx (rdP 5) (constF (.int 0))) (consL (constF (.bl false)) nilL))) nilL))))) nxF)) nxF) (seqF (ifF (orB (tst (bin2 opEq (bin2 opIx (rdP 1) (constF (.int 0))) (constF (.str ("free" : Str))))) (andB (tst (bin2 opEq (rdP 3) (constF (.str ("answer" : Str))))) (tst (bin2 opNe (bin2 opIx (rdP 1) (constF (.int 0))) (constF (.str ("ask" : Str))))))) (seqF (retF (constF .non)) nxF) nxF) (seqF (letF 5 (bin2 opIx (callF 4 0 (srcP 4) M_heard (consL (rdV 0) (consL (rdV 1) (consL (rdV 3) (consL (bin2 opEq (rdP 4) (constF (.str ("lesser" : Str)))) nilL)))) nilL) (constF (.int 0)))) (seqF (retF (mkT (consL (rdV 5) (consL (mkT (consL (bin2 opIx (rdP 5) (constF (.int 0))) (consL (andV (bin2 opEq (rdP 3) (constF (.str ("ask" : Str)))) (callF 3 0 (srcP 3) M_replies (consL (rdV 0) (consL (rdV 1) (consL (bin2 opEq (rdP 4) (constF (.str ("lesser" : Str)))) nilL))) nilL)) nilL))) nilL)))) nxF)))))
def M_turned : List D → R D := runF 6 F_turned
abbrev s_is_parted : Stmt := topS 27
def N_is_parted : List Str := [("first" : Str), ("second" : Str)]
def F_is_parted : Rho → Out := (seqF (ifF (orB (tst (bin2 opIsN (rdP 0) (constF .non))) (tst (bin2 opIsN (rdP 1) (constF .non)))) (seqF (retF (orV (bin2 opNotN (rdP 0) (constF .non)) (bin2 opNotN (rdP 1) (constF .non)))) nxF) nxF) (seqF (retF (bin2 opNe (bin2 opIx (rdP 0) (constF (.int 1))) (bin2 opIx (rdP 1) (constF (.int 1))))) nxF))
def M_is_parted : List D → R D := runF 2 F_is_parted
abbrev s_Alike_shows : Stmt := subS 23 2
def N_Alike_shows : List Str := [("self" : Str), ("one" : Str), ("other" : Str), ("known" : Str), ("both" : Str), ("turn" : Str), ("first" : Str), ("second" : Str)]
def F_Alike_shows : Rho → Out := (seqF (exprF (callF 2 0 (srcP 2) M_check_two (consL (rdV 1) (consL (rdV 2) nilL)) nilL)) (seqF (letF 3 (appL biDictP (consL (lcF (.n 4) [4] yesF (mkT (consL (rdV 4) (consL (constF (.bl true)) nilL))) (itSeq (bndF (evA flds MA_legs ("legs" : Str) al_legs) (rdV 0)))) nilL))) (seqF (ifF (tst (bin2 opNinK (mkT (consL (mkT (consL (constF (.str ("free" : Str))) (consL (constF (.int 0)) nilL))) (consL (mkT (consL (constF (.str ("free" : Str))) (consL (constF (.int 0)) nilL))) nilL))) (rdP 3))) (seqF (retF (constF (.bl false))) nxF) nxF) (seqF (forF (.n 4) (itKeys (rdV 3)) (seqF (forF (.n 5) (itSeq (constF c_TURNS)) (seqF (par2 6 7 false false (callF 3 0 (srcP 3) M_turned (consL (rdV 1) (consL (bin2 opIx (rdP 4) (constF (.int 0))) (consL (rdV 5) nilL))) nilL) (callF 3 0 (srcP 3) M_turned (consL (rdV 2) (consL (bin2 opIx (rdP 4) (constF (.int 1))) (consL (rdV 5) nilL))) nilL)) (seqF (ifF (tst (callF 2 0 (srcP 2) M_is_parted (consL (rdV 6) (consL (rdV 7) nilL)) nilL)) (seqF (retF (constF (.bl false))) nxF) nxF) (seqF (ifF (andB (tst (bin2 opNotN (rdP 6) (constF .non))) (tst (bin2 opNinK (mkT (consL (bin2 opIx (rdP 6) (constF (.int 0))) (consL (bin2 opIx (rdP 7) (constF (.int 0))) nilL))) (rdP 3)))) (seqF (retF (constF (.bl false))) nxF) nxF) nxF)))) nxF)) (seqF (retF (constF (.bl true))) nxF)))))
def M_Alike_shows : List D → R D := runF 8 F_Alike_shows
def ma_Alike_shows : List (Nat × Shp) := [(2, ⟨30, 3, [], srcP 3⟩)]
abbrev s_Alike_init : Stmt := subS 23 0
def N_Alike_init : List Str := [("self" : Str), ("legs" : Str)]
def F_Alike_init : Rho → Out := (seqF (setfF 2 0 (appL (Bi.ev .list) (consL (rdP 1) nilL))) nxF)
def MI_Alike_init : List D → R (List D) := runI 2 2 1 F_Alike_init
def shp_Alike_init_none : Shp := ⟨31, 2, [], srcP 2⟩
abbrev s_law_is_alike : Stmt := topS 41
def N_law_is_alike : List Str := [("_law_one" : Str), ("_law_other" : Str), ("_law_states" : Str), ("_law_known" : Str), ("_law_both" : Str), ("_law_turn_here" : Str), ("_law_apart" : Str), ("_law_late" : Str)]
def F_law_is_alike : Rho → Out := (seqF (letF 3 (appL biDictP (consL (lcF (.n 4) [4] yesF (mkT (consL (rdV 4) (consL (constF (.bl true)) nilL))) (itSeq (rdV 2))) nilL))) (seqF (ifF (tst (bin2 opNinK (mkT (consL (mkT (consL (constF (.str ("free" : Str))) (consL (constF (.int 0)) nilL))) (consL (mkT (consL (constF (.str ("free" : Str))) (consL (constF (.int 0)) nilL))) nilL))) (rdP 3))) (seqF (retF (constF (.bl false))) nxF) nxF) (seqF (forF (.n 4) (itKeys (rdV 3)) (seqF (forF (.n 5) (itSeq (callF 0 0 (srcP 0) M_law_turns nilL nilL)) (seqF (tgtF (.t [6, 7]) (callF 4 0 (srcP 4) M_law_parted (consL (rdV 0) (consL (rdV 1) (consL (rdV 4) (consL (rdV 5) nilL)))) nilL)) (seqF (ifF (orB (tst (rdV 6)) (andB (tst (bin2 opNotN (rdP 7) (constF .non))) (tst (bin2 opNinK (rdP 7) (rdP 3))))) (seqF (retF (constF (.bl false))) nxF) nxF) nxF))) nxF)) (seqF (retF (constF (.bl true))) nxF))))
def M_law_is_alike : List D → R D := runF 8 F_law_is_alike
abbrev s_law_lists_right : Stmt := topS 43
def N_law_lists_right : List Str := [("_law_draw" : Str), ("_law_one" : Str), ("_law_other" : Str), ("_law_found" : Str), ("_law_first" : Str), ("_law_second" : Str), ("_law_every" : Str), ("_law_at" : Str), ("_law_both" : Str), ("_law_odd" : Str), ("_law_some" : Str)]
def F_law_lists_right : Rho → Out := (seqF (par3 4 5 6 false false false (callF 1 0 (srcP 1) M_law_made (consL (rdV 1) nilL) nilL) (callF 1 0 (srcP 1) M_law_made (consL (rdV 2) nilL) nilL) (appL biListK (consL (rdP 3) nilL))) (seqF (par2 7 8 false false (callF 2 0 (srcP 2) M_law_take (consL (rdV 0) (consL (appL (Bi.ev .len) (consL (rdP 6) nilL)) nilL)) nilL) (callF 2 0 (srcP 2) M_law_pick (consL (rdV 0) (consL (rdV 6) nilL)) nilL)) (seqF (letF 9 (mkT (consL (bin2 opIx (callF 2 0 (srcP 2) M_law_pick (consL (rdV 0) (consL (rdV 6) nilL)) nilL) (constF (.int 0))) (consL (bin2 opIx (rdP 8) (constF (.int 1))) nilL)))) (seqF (forF (.n 10) (itSeq (mkT (consL (rdV 6) (consL (bin2 opAdd (bndF opRev (rdP 6)) (slF (rdP 6) noneF (someF (constF (.int 1))))) (consL (bin2 opAdd (slF (rdP 6) noneF (someF (rdV 7))) (slF (rdP 6) (someF (bin2 opAdd (rdP 7) (constF (.int 1)))) noneF)) (consL (slF (rdP 6) (someF (constF (.int 1))) noneF) (consL (mkL nilL) (consL (bin2 opAdd (rdP 6) (mkL (consL (rdV 9) nilL))) nilL)))))))) (seqF (ifF (tst (bin2 opNe (methF (fun _ => M_Alike_shows) ma_Alike_shows (mkG 2 shp_Alike_init_none MI_Alike_init (consL (rdV 10) nilL) nilL) (consL (rdV 4) (consL (rdV 5) nilL)) nilL) (callF 3 0 (srcP 3) M_law_is_alike (consL (rdV 1) (consL (rdV 2) (consL (rdV 10) nilL))) nilL))) (seqF (retF (constF (.bl false))) nxF) nxF) nxF)) (seqF (retF (constF (.bl true))) nxF)))))
def M_law_lists_right : List D → R D := runF 11 F_law_lists_right
abbrev s_Parted_shows : Stmt := subS 24 2
def N_Parted_shows : List Str := [("self" : Str), ("one" : Str), ("other" : Str), ("mine" : Str), ("late" : Str), ("index" : Str), ("turn" : Str), ("first" : Str), ("second" : Str)]
def F_Parted_shows : Rho → Out := (seqF (exprF (callF 2 0 (srcP 2) M_check_two (consL (rdV 1) (consL (rdV 2) nilL)) nilL)) (seqF (tgtF (.t [3, 4]) (mkT (consL (mkT (consL (constF (.str ("free" : Str))) (consL (constF (.int 0)) nilL))) (consL (mkT (consL (constF (.str ("free" : Str))) (consL (constF (.int 0)) nilL))) nilL)))) (seqF (forF (.t [5, 6]) (itEnum (bndF (evA flds MA_turns ("turns" : Str) al_turns) (rdV 0))) (seqF (par2 7 8 false false (callF 3 0 (srcP 3) M_turned (consL (rdV 1) (consL (rdV 3) (consL (rdV 6) nilL))) nilL) (callF 3 0 (srcP 3) M_turned (consL (rdV 2) (consL (rdV 4) (consL (rdV 6) nilL))) nilL)) (seqF (ifF (tst (callF 2 0 (srcP 2) M_is_parted (consL (rdV 7) (consL (rdV 8) nilL)) nilL)) (seqF (retF (bin2 opEq (rdP 5) (bin2 opSub (appL (Bi.ev .len) (consL (bndF (evA flds MA_turns ("turns" : Str) al_turns) (rdV 0)) nilL)) (constF (.int 1))))) nxF) nxF) (seqF (ifF (tst (bin2 opIsN (rdP 7) (constF .non))) (seqF (retF (constF (.bl false))) nxF) nxF) (seqF (par2 3 4 false false (bin2 opIx (rdP 7) (constF (.int 0))) (bin2 opIx (rdP 8) (constF (.int 0)))) nxF))))) (seqF (retF (constF (.bl false))) nxF))))
def M_Parted_shows : List D → R D := runF 9 F_Parted_shows
def ma_Parted_shows : List (Nat × Shp) := [(3, ⟨34, 3, [], srcP 3⟩)]
abbrev s_Parted_init : Stmt := subS 24 0
def N_Parted_init : List Str := [("self" : Str), ("turns" : Str)]
def F_Parted_init : Rho → Out := (seqF (setfF 3 0 (appL (Bi.ev .list) (consL (rdP 1) nilL))) nxF)
def MI_Parted_init : List D → R (List D) := runI 2 3 1 F_Parted_init
def shp_Parted_init_none : Shp := ⟨35, 2, [], srcP 2⟩
abbrev s_law_is_parting : Stmt := topS 42
def N_law_is_parting : List Str := [("_law_one" : Str), ("_law_other" : Str), ("_law_row" : Str), ("_law_both" : Str), ("_law_at" : Str), ("_law_turn_here" : Str), ("_law_apart" : Str), ("_law_late" : Str)]
def F_law_is_parting : Rho → Out := (seqF (letF 3 (mkT (consL (mkT (consL (constF (.str ("free" : Str))) (consL (constF (.int 0)) nilL))) (consL (mkT (consL (constF (.str ("free" : Str))) (consL (constF (.int 0)) nilL))) nilL)))) (seqF (forF (.t [4, 5]) (itEnum (rdV 2)) (seqF (tgtF (.t [6, 7]) (callF 4 0 (srcP 4) M_law_parted (consL (rdV 0) (consL (rdV 1) (consL (rdV 3) (consL (rdV 5) nilL)))) nilL)) (seqF (ifF (orB (tst (rdV 6)) (tst (bin2 opIsN (rdP 7) (constF .non)))) (seqF (retF (andV (rdV 6) (bin2 opEq (rdP 4) (bin2 opSub (appL (Bi.ev .len) (consL (rdP 2) nilL)) (constF (.int 1)))))) nxF) nxF) (seqF (letF 3 (rdV 7)) nxF)))) (seqF (retF (constF (.bl false))) nxF)))
def M_law_is_parting : List D → R D := runF 8 F_law_is_parting
abbrev s_law_rows_right : Stmt := topS 44
def N_law_rows_right : List Str := [("_law_draw" : Str), ("_law_one" : Str), ("_law_other" : Str), ("_law_found" : Str), ("_law_first" : Str), ("_law_second" : Str), ("_law_every" : Str), ("_law_cycle" : Str), ("_law_row" : Str), ("_law_at" : Str), ("_law_turn_here" : Str), ("_law_some" : Str)]
def F_law_rows_right : Rho → Out := (seqF (par3 4 5 6 false false false (callF 1 0 (srcP 1) M_law_made (consL (rdV 1) nilL) nilL) (callF 1 0 (srcP 1) M_law_made (consL (rdV 2) nilL) nilL) (appL biListK (consL (rdP 3) nilL))) (seqF (forF (.n 7) (itRng1 (consL (constF (.int 8)) nilL)) (seqF (letF 8 (bin2 opIxK (rdP 3) (callF 2 0 (srcP 2) M_law_pick (consL (rdV 0) (consL (rdV 6) nilL)) nilL))) (seqF (par2 9 10 false false (callF 2 0 (srcP 2) M_law_take (consL (rdV 0) (consL (bin2 opAdd (appL (Bi.ev .len) (consL (rdP 8) nilL)) (constF (.int 1))) nilL)) nilL) (callF 2 0 (srcP 2) M_law_pick (consL (rdV 0) (consL (callF 0 0 (srcP 0) M_law_turns nilL nilL) nilL)) nilL)) (seqF (forF (.n 11) (itSeq (mkT (consL (rdV 8) (consL (bin2 opAdd (rdP 8) (mkL (consL (rdV 10) nilL))) (consL (bin2 opAdd (slF (rdP 8) noneF (someF (rdV 9))) (slF (rdP 8) (someF (bin2 opAdd (rdP 9) (constF (.int 1)))) noneF)) (consL (bin2 opAdd (bin2 opAdd (slF (rdP 8) noneF (someF (rdV 9))) (mkL (consL (rdV 10) nilL))) (slF (rdP 8) (someF (rdV 9)) noneF)) (consL (bndF opRev (rdP 8)) nilL))))))) (seqF (ifF (tst (bin2 opNe (methF (fun _ => M_Parted_shows) ma_Parted_shows (mkG 3 shp_Parted_init_none MI_Parted_init (consL (rdV 11) nilL) nilL) (consL (rdV 4) (consL (rdV 5) nilL)) nilL) (callF 3 0 (srcP 3) M_law_is_parting (consL (rdV 1) (consL (rdV 2) (consL (rdV 11) nilL))) nilL))) (seqF (retF (constF (.bl false))) nxF) nxF) nxF)) nxF)))) (seqF (forF (.n 10) (itSeq (callF 0 0 (srcP 0) M_law_turns nilL nilL)) (seqF (letF 8 (bin2 opAdd (bin2 opIxK (rdP 3) (callF 2 0 (srcP 2) M_law_pick (consL (rdV 0) (consL (rdV 6) nilL)) nilL)) (mkL (consL (rdV 10) nilL)))) (seqF (ifF (tst (bin2 opNe (methF (fun _ => M_Parted_shows) ma_Parted_shows (mkG 3 shp_Parted_init_none MI_Parted_init (consL (rdV 8) nilL) nilL) (consL (rdV 4) (consL (rdV 5) nilL)) nilL) (callF 3 0 (srcP 3) M_law_is_parting (consL (rdV 1) (consL (rdV 2) (consL (rdV 8) nilL))) nilL))) (seqF (retF (constF (.bl false))) nxF) nxF) nxF))) (seqF (retF (notV (methF (fun _ => M_Parted_shows) ma_Parted_shows (mkG 3 shp_Parted_init_none MI_Parted_init (consL (mkL nilL) nilL) nilL) (consL (rdV 4) (consL (rdV 5) nilL)) nilL))) nxF))))
def M_law_rows_right : List D → R D := runF 12 F_law_rows_right
abbrev s_Alike_eq : Stmt := subS 23 1
def N_Alike_eq : List Str := [("self" : Str), ("other" : Str)]
def F_Alike_eq : Rho → Out := (seqF (retF (andV (bndF (isiF subT clsT [.c 2]) (rdP 1)) (bin2 opEq (bndF (evA flds MA_legs ("legs" : Str) al_legs) (rdV 0)) (bndF (evA flds MA_legs ("legs" : Str) al_legs) (rdV 1))))) nxF)
def M_Alike_eq : List D → R D := runF 2 F_Alike_eq
abbrev s_Parted_eq : Stmt := subS 24 1
def N_Parted_eq : List Str := [("self" : Str), ("other" : Str)]
def F_Parted_eq : Rho → Out := (seqF (retF (andV (bndF (isiF subT clsT [.c 3]) (rdP 1)) (bin2 opEq (bndF (evA flds MA_turns ("turns" : Str) al_turns) (rdV 0)) (bndF (evA flds MA_turns ("turns" : Str) al_turns) (rdV 1))))) nxF)
def M_Parted_eq : List D → R D := runF 2 F_Parted_eq
abbrev s_law_equal_right : Stmt := topS 45
def N_law_equal_right : List Str := [("_law_found" : Str), ("_law_every" : Str), ("_law_row" : Str), ("_law_one" : Str), ("_law_two" : Str), ("_law_kept" : Str)]
def F_law_equal_right : Rho → Out := (seqF (par2 1 2 true true (slF (appL biListK (consL (rdP 0) nilL)) noneF (someF (constF (.int 3)))) (mkL (consL (mkT (consL (constF (.str ("pick" : Str))) (consL (constF .non) nilL))) nilL))) (seqF (par2 3 4 false false (copyF 2 1) (copyF 3 2)) (seqF (letF 5 (appL (Bi.ev .list) (consL (rdP 1) nilL))) (seqF (clrF 1) (seqF (clrF 2) (seqF (ifF (orB (tst (bin2 opNe (bndF (evA flds MA_legs ("legs" : Str) al_legs) (rdV 3)) (rdP 5))) (orB (tst (bin2 opNe (bndF (evA flds MA_turns ("turns" : Str) al_turns) (rdV 4)) (mkL (consL (mkT (consL (constF (.str ("pick" : Str))) (consL (constF .non) nilL))) nilL)))) (orB (tst (bin2 (opEqI 2 M_Alike_eq) (rdP 3) (mkG 2 shp_Alike_init_none MI_Alike_init (consL (mkL nilL) nilL) nilL))) (tst (bin2 (opEqI 3 M_Parted_eq) (rdP 4) (mkG 3 shp_Parted_init_none MI_Parted_init (consL (mkL nilL) nilL) nilL)))))) (seqF (retF (constF (.bl false))) nxF) nxF) (seqF (retF (andV (bin2 (opEqI 2 M_Alike_eq) (rdP 3) (mkG 2 shp_Alike_init_none MI_Alike_init (consL (rdV 5) nilL) nilL)) (andV (bin2 (opEqI 3 M_Parted_eq) (rdP 4) (mkG 3 shp_Parted_init_none MI_Parted_init (consL (mkL (consL (mkT (consL (constF (.str ("pick" : Str))) (consL (constF .non) nilL))) nilL)) nilL) nilL)) (andV (bin2 (opNeJ 2 3 M_Alike_eq) (rdP 3) (rdP 4)) (bin2 (opNeJ 2 3 M_Alike_eq) (mkG 2 shp_Alike_init_none MI_Alike_init (consL (mkL nilL) nilL) nilL) (mkG 3 shp_Parted_init_none MI_Parted_init (consL (mkL nilL) nilL) nilL)))))) nxF)))))))
def M_law_equal_right : List D → R D := runF 6 F_law_equal_right
abbrev s_law : Stmt := topS 46
def N_law : List Str := [("_law_script" : Str), ("_law_draw" : Str), ("_law_cycle" : Str), ("_law_one" : Str), ("_law_at" : Str), ("_law_other" : Str), ("_law_found" : Str)]
def F_law : Rho → Out := (seqF (letF 1 (bndF drwN (rdV 0))) (seqF (forF (.n 2) (itRng1 (consL (constF (.int 3)) nilL)) (seqF (letF 3 (callF 1 0 (srcP 1) M_law_parts (consL (rdV 1) nilL) nilL)) (seqF (letF 4 (callF 2 0 (srcP 2) M_law_take (consL (rdV 1) (consL (constF (.int 9)) nilL)) nilL)) (seqF (letF 5 (iteV (tst (bin2 (opCmp fun i j => decide (j < i)) (rdP 4) (constF (.int 5)))) (rdV 3) (bin2 opAdd (bin2 opAdd (slF (rdP 3) noneF (someF (rdV 4))) (mkT (consL (bin2 opIx (callF 1 0 (srcP 1) M_law_parts (consL (rdV 1) nilL) nilL) (rdP 4)) nilL))) (slF (rdP 3) (someF (bin2 opAdd (rdP 4) (constF (.int 1)))) noneF)))) (seqF (letF 6 (callF 2 0 (srcP 2) M_law_reach (consL (rdV 3) (consL (rdV 5) nilL)) nilL)) (seqF (ifF (orB (notB (tst (callF 4 0 (srcP 4) M_law_lists_right (consL (rdV 1) (consL (rdV 3) (consL (rdV 5) (consL (rdV 6) nilL)))) nilL))) (notB (tst (callF 4 0 (srcP 4) M_law_rows_right (consL (rdV 1) (consL (rdV 3) (consL (rdV 5) (consL (rdV 6) nilL)))) nilL)))) (seqF (retF (constF (.bl false))) nxF) nxF) (seqF (ifF (notB (tst (callF 1 0 (srcP 1) M_law_equal_right (consL (rdV 6) nilL) nilL))) (seqF (retF (constF (.bl false))) nxF) nxF) nxF))))))) (seqF (retF (constF (.bl true))) nxF)))
def M_law : List D → R D := runF 7 F_law

end K35
set_option Elab.async false
set_option linter.all false
set_option maxRecDepth 100000
set_option maxHeartbeats 4000000
namespace K35
open PySem L2 BV
/-! the machine in plain words -/
inductive Wd where
  | lesser | stay | yield
  deriving DecidableEq
def Wd.s : Wd → Str
  | .lesser => "lesser" | .stay => "stay" | .yield => "yield"
inductive St where
  | free (g : Nat) | ask (n g : Nat) | hold (o s : Nat)
  deriving DecidableEq
structure Rl where
  asks : Nat
  tells : Nat
  meets : List Wd
  stands : List Wd
  ans : Bool
  again : Bool
def St.d : St → D
  | .free g => .tup [.str "free", .int g]
  | .ask n g => .tup [.str "ask", .int n, .int g]
  | .hold o s => .tup [.str "hold", .int o, .int s]
def wds (l : List Wd) : D := .tup (l.map fun w => .str w.s)
def Rl.row (r : Rl) : D := .tup [.int r.asks, .int r.tells, wds r.meets, wds r.stands, .bl r.ans, .bl r.again]
def Rl.d (r : Rl) : D := .ins 0 [r.row]
def gives (w : Wd) (l : Bool) : Bool := match w with
  | .yield => true
  | .lesser => l
  | .stay => false
theorem gives_ok (w : Wd) (l : Bool) : M_gives_way [.str w.s, .bl l] = .ok (.bl (gives w l)) := by
  cases w <;> cases l <;> simp [M_gives_way, F_gives_way, startR, Wd.s, gives]
@[simp] theorem a_asks (r : Rl) : evA flds MA_asks ("asks" : Str) al_asks r.d = .ok (.int r.asks) := by
  simp [Rl.d, Rl.row, evA, al_asks, al_row, MA_asks, M_Rule_asks, F_Rule_asks, startR, flds, noErrR]
@[simp] theorem a_tells (r : Rl) : evA flds MA_tells ("tells" : Str) al_tells r.d = .ok (.int r.tells) := by
  simp [Rl.d, Rl.row, evA, al_tells, al_row, MA_tells, M_Rule_tells, F_Rule_tells, startR, flds, noErrR]
@[simp] theorem a_meets (r : Rl) : evA flds MA_meets ("meets" : Str) al_meets r.d = .ok (wds r.meets) := by
  simp [Rl.d, Rl.row, evA, al_meets, al_row, MA_meets, M_Rule_meets, F_Rule_meets, startR, flds, noErrR]
@[simp] theorem a_stands (r : Rl) : evA flds MA_stands ("stands" : Str) al_stands r.d = .ok (wds r.stands) := by
  simp [Rl.d, Rl.row, evA, al_stands, al_row, MA_stands, M_Rule_stands, F_Rule_stands, startR, flds, noErrR]
@[simp] theorem a_ans (r : Rl) : evA flds MA_answers ("answers" : Str) al_answers r.d = .ok (.bl r.ans) := by
  simp [Rl.d, Rl.row, evA, al_answers, al_row, MA_answers, M_Rule_answers, F_Rule_answers, startR, flds, noErrR]
@[simp] theorem a_again (r : Rl) : evA flds MA_again ("again" : Str) al_again r.d = .ok (.bl r.again) := by
  simp [Rl.d, Rl.row, evA, al_again, al_row, MA_again, M_Rule_again, F_Rule_again, startR, flds, noErrR]
theorem wds_at {l : List Wd} {g : Nat} (h : g < l.length) : opIx (wds l) (.int g) = .ok (.str l[g].s) := by
  unfold wds
  rw [s_ixT, at_nat (d := .str l[g].s)]
  simp [h]
@[simp] theorem wds_len {l : List Wd} : Bi.ev .len [wds l] = .ok (.int l.length) := by simp [wds]
/-- states of a host -/
def okS (r : Rl) : St → Prop
  | .free g => g < r.meets.length
  | .ask n g => n ≤ r.asks ∧ g < r.meets.length
  | .hold o s => o ≤ max r.tells 1 ∧ s < r.stands.length
inductive Lt where
  | ask | tell | answer
def Lt.s : Lt → Str
  | .ask => "ask" | .tell => "tell" | .answer => "answer"
def heardT (r : Rl) (st : St) (lt : Lt) (l : Bool) : St × Bool := match st, lt with
  | .ask n g, .ask => if gives (r.meets.getD g .stay) l then (.free (min (g + 1) (r.meets.length - 1)), true) else (.ask n g, false)
  | .ask _ g, _ => (.free g, true)
  | .hold o s, .tell => if gives (r.stands.getD s .stay) l then (.free 0, true) else (.hold (max o 1) (min (s + 1) (r.stands.length - 1)), false)
  | st, _ => (st, false)
theorem le2 {n : Nat} (h : n ≤ 100) : n ≤ sizeLine := nat_lit_le (by omega)
theorem heard_ok (r : Rl) (st : St) (lt : Lt) (l : Bool) (h : okS r st) : M_heard [r.d, st.d, .str lt.s, .bl l] = .ok (.tup [(heardT r st lt l).1.d, .bl (heardT r st lt l).2]) := by
  have z : ∀ n : Nat, n ≤ 100 → n ≤ sizeLine := fun n h => le2 h
  cases st with
  | free g => cases lt <;> simp [M_heard, F_heard, startR, St.d, Lt.s, heardT, z]
  | ask n g =>
    have hg := h.2
    have e := wds_at hg
    cases lt <;> simp [M_heard, F_heard, startR, St.d, Lt.s, heardT, z, e, bindS, srcP, List.range, List.range.loop, Src.ev, gives_ok, List.getElem?_eq_getElem hg]
    cases gives r.meets[g] l <;> simp [St.d, z] <;> omega
  | hold o s =>
    have hg := h.2
    have e := wds_at hg
    cases lt <;> simp [M_heard, F_heard, startR, St.d, Lt.s, heardT, z, e, bindS, srcP, List.range, List.range.loop, Src.ev, gives_ok, List.getElem?_eq_getElem hg]
    cases gives r.stands[s] l <;> simp [St.d, z] <;> omega
def repliesT (r : Rl) (st : St) (l : Bool) : Bool := match st with
  | .free _ => false
  | .ask _ g => !gives (r.meets.getD g .stay) l && r.ans
  | .hold _ _ => r.ans
theorem replies_ok (r : Rl) (st : St) (l : Bool) (h : okS r st) : M_replies [r.d, st.d, .bl l] = .ok (.bl (repliesT r st l)) := by
  cases st with
  | free g => cases ha : r.ans <;> simp [M_replies, F_replies, startR, St.d, repliesT, ha]
  | ask n g =>
    have hg := h.2
    have e := wds_at hg
    cases hgv : gives r.meets[g] l <;> cases ha : r.ans <;> simp [M_replies, F_replies, startR, St.d, repliesT, e, bindS, srcP, List.range, List.range.loop, Src.ev, gives_ok, hgv, ha, List.getElem?_eq_getElem hg]
  | hold o s => cases ha : r.ans <;> simp [M_replies, F_replies, startR, St.d, repliesT, ha]
inductive Ow where
  | pick | ask | take | tell | leave
  deriving DecidableEq
def Ow.s : Ow → Str
  | .pick => "pick" | .ask => "ask" | .take => "take" | .tell => "tell" | .leave => "leave"
def ownT (r : Rl) (st : St) (w : Ow) : Option St := match w, st with
  | .pick, .free g => some (.ask r.asks g)
  | .ask, .ask (n + 1) g => some (.ask n g)
  | .take, .ask 0 _ => some (.hold r.tells 0)
  | .tell, .hold o s => if decide (0 < o) || r.again then some (.hold (o - 1) s) else none
  | .leave, .ask _ g => some (.free g)
  | .leave, .hold _ _ => some (.free 0)
  | _, _ => none
def oD : Option St → D
  | some s => s.d
  | none => .non
theorem own_ok (r : Rl) (st : St) (w : Ow) : M_own [r.d, st.d, .str w.s] = .ok (oD (ownT r st w)) := by
  have nz : ∀ n : Nat, ((n : Int) + 1 = 0) = False := fun n => by simp; omega
  have z : ∀ n : Nat, n ≤ 100 → n ≤ sizeLine := fun n h => le2 h
  cases w with
  | pick => cases st <;> simp [M_own, F_own, startR, St.d, Ow.s, ownT, oD, z]
  | ask =>
    cases st with
    | ask n g => cases n <;> simp [M_own, F_own, startR, St.d, Ow.s, ownT, oD, z]
    | _ => simp [M_own, F_own, startR, St.d, Ow.s, ownT, oD, z]
  | take =>
    cases st with
    | ask n g => cases n <;> simp [M_own, F_own, startR, St.d, Ow.s, ownT, oD, z, nz]
    | _ => simp [M_own, F_own, startR, St.d, Ow.s, ownT, oD, z]
  | tell =>
    cases st with
    | hold o s => cases o <;> cases ha : r.again <;> simp [M_own, F_own, startR, St.d, Ow.s, ownT, oD, z, ha] <;> omega
    | _ => simp [M_own, F_own, startR, St.d, Ow.s, ownT, oD, z]
  | leave => cases st <;> simp [M_own, F_own, startR, St.d, Ow.s, ownT, oD, z]
end K35
set_option Elab.async false
set_option linter.all false
set_option maxRecDepth 100000
set_option maxHeartbeats 4000000
namespace K35
open PySem L2 BV
def St.kw : St → Str
  | .free _ => "free"
  | .ask _ _ => "ask"
  | .hold _ _ => "hold"
def St.isFree : St → Bool
  | .free _ => true
  | _ => false
def St.isAsk : St → Bool
  | .ask _ _ => true
  | _ => false
def Lt.isAsk : Lt → Bool
  | .ask => true
  | _ => false
def Lt.isAns : Lt → Bool
  | .answer => true
  | _ => false
/-- turns -/
inductive Tn where
  | own (w : Ow) | hear (lt : Lt) (l : Bool)
def sd (l : Bool) : Str := if l then "lesser" else "greater"
def Tn.d : Tn → D
  | .own w => .tup [.str w.s, .non]
  | .hear lt l => .tup [.str lt.s, .str (sd l)]
def turnT (r : Rl) (st : St) : Tn → Option (St × Bool)
  | .own w => (ownT r st w).map fun s => (s, false)
  | .hear lt l => if st.isFree || (lt.isAns && !st.isAsk) then none else some ((heardT r st lt l).1, lt.isAsk && repliesT r st l)
def tD : Option (St × Bool) → D
  | none => .non
  | some x => .tup [x.1.d, .tup [.str x.1.kw, .bl x.2]]
theorem ix_kw (st : St) : opIx st.d (.int 0) = .ok (.str st.kw) := by cases st <;> simp [St.d, St.kw]
theorem d_non (st : St) : st.d.isNon = false := by cases st <;> simp [St.d]
theorem kw_free (st : St) : opEq (.str st.kw) (.str ("free" : Str)) = .ok (.bl st.isFree) := by cases st <;> simp [St.isFree, St.kw]
theorem kw_nfree (st : St) : opNe (.str st.kw) (.str ("free" : Str)) = .ok (.bl (!st.isFree)) := by cases st <;> simp [St.isFree, St.kw]
theorem kw_nask (st : St) : opNe (.str st.kw) (.str ("ask" : Str)) = .ok (.bl (!st.isAsk)) := by cases st <;> simp [St.isAsk, St.kw]
theorem lt_ask (lt : Lt) : opEq (.str lt.s) (.str ("ask" : Str)) = .ok (.bl lt.isAsk) := by cases lt <;> simp [Lt.s, Lt.isAsk]
theorem lt_ans (lt : Lt) : opEq (.str lt.s) (.str ("answer" : Str)) = .ok (.bl lt.isAns) := by cases lt <;> simp [Lt.s, Lt.isAns]
theorem sd_les (l : Bool) : opEq (.str (sd l)) (.str ("lesser" : Str)) = .ok (.bl l) := by cases l <;> simp [sd]
theorem sp2 : srcP 2 = [.pos 0, .pos 1] := rfl
theorem sp3 : srcP 3 = [.pos 0, .pos 1, .pos 2] := rfl
theorem sp4 : srcP 4 = [.pos 0, .pos 1, .pos 2, .pos 3] := rfl
theorem sp1 : srcP 1 = [.pos 0] := rfl
theorem sp0 : srcP 0 = [] := rfl
theorem turned_ok (r : Rl) (st : St) (t : Tn) (h : okS r st) : M_turned [r.d, st.d, t.d] = .ok (tD (turnT r st t)) := by
  have z : ∀ n : Nat, n ≤ 100 → n ≤ sizeLine := fun n h => le2 h
  cases t with
  | own w =>
    have ho := own_ok r st w
    cases e : ownT r st w with
    | none => rw [e] at ho; simp [M_turned, F_turned, startR, Tn.d, bindS, sp3, Src.ev, ho, oD, turnT, e, tD]
    | some m => rw [e] at ho; simp [M_turned, F_turned, startR, Tn.d, bindS, sp3, Src.ev, ho, oD, turnT, e, tD, d_non, ix_kw, z]
  | hear lt l =>
    have h1 := heard_ok r st lt l h
    have h2 := replies_ok r st l h
    cases hf : st.isFree <;> cases ha : lt.isAns <;> cases hk : st.isAsk <;> cases hl : lt.isAsk <;>
    simp [M_turned, F_turned, startR, Tn.d, bindS, sp3, sp4, Src.ev, h1, h2, turnT, tD, d_non, ix_kw, z, kw_free, kw_nask, lt_ask, lt_ans, sd_les, hf, ha, hk, hl]
theorem lown_ok (r : Rl) (st : St) (w : Ow) : M_law_own [r.row, st.d, .str w.s] = .ok (oD (ownT r st w)) := by
  have nz : ∀ n : Nat, ((n : Int) + 1 = 0) = False := fun n => by simp; omega
  have z : ∀ n : Nat, n ≤ 100 → n ≤ sizeLine := fun n h => le2 h
  cases w with
  | pick => cases st with
    | ask n g => cases n <;> simp [M_law_own, F_law_own, startR, St.d, Ow.s, ownT, oD, z, Rl.row]
    | _ => simp [M_law_own, F_law_own, startR, St.d, Ow.s, ownT, oD, z, Rl.row]
  | ask =>
    cases st with
    | ask n g => cases n <;> simp [M_law_own, F_law_own, startR, St.d, Ow.s, ownT, oD, z, Rl.row]
    | _ => simp [M_law_own, F_law_own, startR, St.d, Ow.s, ownT, oD, z, Rl.row]
  | take =>
    cases st with
    | ask n g => cases n <;> simp [M_law_own, F_law_own, startR, St.d, Ow.s, ownT, oD, z, nz, Rl.row]
    | _ => simp [M_law_own, F_law_own, startR, St.d, Ow.s, ownT, oD, z, Rl.row]
  | tell =>
    cases st with
    | hold o s => cases o <;> cases ha : r.again <;> simp [M_law_own, F_law_own, startR, St.d, Ow.s, ownT, oD, z, ha, Rl.row, nz] <;> first | done | omega
    | ask n g => cases n <;> simp [M_law_own, F_law_own, startR, St.d, Ow.s, ownT, oD, z, Rl.row]
    | _ => simp [M_law_own, F_law_own, startR, St.d, Ow.s, ownT, oD, z, Rl.row]
  | leave => cases st <;> simp [M_law_own, F_law_own, startR, St.d, Ow.s, ownT, oD, z, Rl.row]
theorem lheard_ok (r : Rl) (st : St) (lt : Lt) (l : Bool) (h : okS r st) : M_law_heard [r.row, st.d, .str lt.s, .bl l] = .ok (heardT r st lt l).1.d := by
  have z : ∀ n : Nat, n ≤ 100 → n ≤ sizeLine := fun n h => le2 h
  cases st with
  | free g => cases lt <;> simp [M_law_heard, F_law_heard, startR, St.d, Lt.s, heardT, z, Rl.row]
  | ask n g =>
    have hg := h.2
    have e := wds_at hg
    cases lt <;> cases hw : r.meets[g] <;> cases l <;> simp [M_law_heard, F_law_heard, startR, St.d, Lt.s, heardT, z, e, List.getElem?_eq_getElem hg, Rl.row, hw, Wd.s, gives] <;> first | done | omega | (constructor <;> omega)
  | hold o s =>
    have hg := h.2
    have e := wds_at hg
    cases lt <;> cases hw : r.stands[s] <;> cases l <;> simp [M_law_heard, F_law_heard, startR, St.d, Lt.s, heardT, z, e, List.getElem?_eq_getElem hg, Rl.row, hw, Wd.s, gives] <;> first | done | omega | (constructor <;> omega)
end K35
set_option Elab.async false
set_option linter.all false
set_option maxRecDepth 100000
set_option maxHeartbeats 4000000
namespace K35
open PySem L2 BV
theorem kw_hold (st : St) (h : st.isFree = false) : opEq (.str st.kw) (.str ("hold" : Str)) = .ok (.bl (!st.isAsk)) := by cases st <;> simp [St.isAsk, St.isFree, St.kw] at h ⊢
theorem row_ans (r : Rl) : opIx r.row (.int 4) = .ok (.bl r.ans) := by simp [Rl.row]
theorem lturn_ok (r : Rl) (st : St) (t : Tn) (h : okS r st) : M_law_turn [r.row, st.d, t.d] = .ok (tD (turnT r st t)) := by
  have z : ∀ n : Nat, n ≤ 100 → n ≤ sizeLine := fun n h => le2 h
  cases t with
  | own w =>
    have ho := lown_ok r st w
    cases e : ownT r st w with
    | none => rw [e] at ho; simp [M_law_turn, F_law_turn, startR, Tn.d, bindS, sp3, Src.ev, ho, oD, turnT, e, tD]
    | some m => rw [e] at ho; simp [M_law_turn, F_law_turn, startR, Tn.d, bindS, sp3, Src.ev, ho, oD, turnT, e, tD, d_non, ix_kw, z]
  | hear lt l =>
    have h1 := lheard_ok r st lt l h
    cases hf : st.isFree with
    | true => simp [M_law_turn, F_law_turn, startR, Tn.d, bindS, sp3, sp4, Src.ev, turnT, tD, ix_kw, z, kw_free, hf]
    | false =>
      have hh := kw_hold st hf
      have hrep : lt.isAsk = true → (r.ans && !(heardT r st lt l).1.isFree) = repliesT r st l := fun hl => by
        cases st with
        | free g => simp [St.isFree] at hf
        | ask n g =>
          cases lt <;> simp [Lt.isAsk] at hl
          cases hgv : gives (r.meets.getD g .stay) l <;> simp only [heardT, repliesT, hgv, if_true, Bool.false_eq_true, if_false, St.isFree] <;> cases r.ans <;> rfl
        | hold o s =>
          cases lt <;> simp [Lt.isAsk] at hl
          simp [heardT, repliesT, St.isFree]
      cases ha : lt.isAns <;> cases hk : st.isAsk <;> rw [hk] at hh <;> cases hl : lt.isAsk <;> cases hra : r.ans <;> cases hhf : (heardT r st lt l).1.isFree <;>
      (try have hrep := hrep hl) <;> (try rw [hra, hhf] at hrep) <;>
      simp [M_law_turn, F_law_turn, startR, Tn.d, bindS, sp3, sp4, Src.ev, h1, turnT, tD, ix_kw, z, kw_free, kw_nfree, kw_nask, lt_ask, lt_ans, sd_les, hf, ha, hk, hl, hh, row_ans, hra, hhf] <;> (try exact hrep) <;> (try exact hrep.symm) <;> simp_all
/-- pairs of states -/
structure Bp where
  x : St
  y : St
  deriving DecidableEq
def bD (p : Bp) : D := .tup [p.1.d, p.2.d]
def obD : Option Bp → D
  | none => .non
  | some p => bD p
def sho (a b : St × Bool) : Bool := !(a.1.kw == b.1.kw && a.2 == b.2)
def stepT (a b : Rl) (p : Bp) (t : Tn) : Bool × Option Bp := match turnT a p.1 t, turnT b p.2 t with
  | none, none => (false, none)
  | some _, none => (true, none)
  | none, some _ => (true, none)
  | some x, some y => (decide (x.1.kw ≠ y.1.kw ∨ x.2 ≠ y.2), some ⟨x.1, y.1⟩)
theorem ne_shows (x y : St × Bool) : opNe (.tup [.str x.1.kw, .bl x.2]) (.tup [.str y.1.kw, .bl y.2]) = .ok (.bl (decide (x.1.kw ≠ y.1.kw ∨ x.2 ≠ y.2))) := by
  obtain ⟨s, b⟩ := x
  obtain ⟨s', b'⟩ := y
  cases s <;> cases s' <;> cases b <;> cases b' <;> simp only [St.kw] <;> kernel_rfl
theorem tD_non (o : Option (St × Bool)) : (tD o).isNon = o.isNone := by cases o <;> rfl
theorem parted_ok (a b : Rl) (p : Bp) (t : Tn) (h1 : okS a p.1) (h2 : okS b p.2) : M_is_parted [tD (turnT a p.1 t), tD (turnT b p.2 t)] = .ok (.bl (stepT a b p t).1) := by
  unfold stepT
  cases e1 : turnT a p.1 t <;> cases e2 : turnT b p.2 t <;> simp [M_is_parted, F_is_parted, startR, tD, ne_shows]
theorem lparted_ok (a b : Rl) (p : Bp) (t : Tn) (h1 : okS a p.1) (h2 : okS b p.2) : M_law_parted [a.row, b.row, bD p, t.d] = .ok (.tup [.bl (stepT a b p t).1, obD (stepT a b p t).2]) := by
  have z : ∀ n : Nat, n ≤ 100 → n ≤ sizeLine := fun n h => le2 h
  have q1 := lturn_ok a p.1 t h1
  have q2 := lturn_ok b p.2 t h2
  unfold stepT
  cases e1 : turnT a p.1 t <;> cases e2 : turnT b p.2 t <;> rw [e1] at q1 <;> rw [e2] at q2 <;> simp only [tD] at q1 q2 <;>
  simp [M_law_parted, F_law_parted, startR, bindS, sp3, Src.ev, bD, q1, q2, tD, ne_shows, obD, z]
end K35
set_option Elab.async false
set_option linter.all false
set_option maxRecDepth 100000
set_option maxHeartbeats 4000000
namespace K35
open PySem L2 BV
/-! ### pairs of states as keys -/
def St.k : St → NestedKey
  | .free g => .tup [.text "free", .num g]
  | .ask n g => .tup [.text "ask", .num n, .num g]
  | .hold o s => .tup [.text "hold", .num o, .num s]
theorem st_toK (s : St) : s.d.toK = some s.k := by cases s <;> simp [St.d, St.k, D.toK, D.toKs]
theorem st_inj {s t : St} (h : s.k = t.k) : s = t := by
  have ne : ("ask" : Str) ≠ ("hold" : Str) := by decide
  cases s <;> cases t <;> simp [St.k] at h ⊢
  · omega
  · omega
  · exact ne h.1
  · exact ne h.1.symm
  · omega
def bK (p : Bp) : NestedKey := .tup [p.1.k, p.2.k]
theorem bp_toK (p : Bp) : (bD p).toK = some (bK p) := by simp [bD, bK, D.toK, D.toKs, st_toK]
theorem bp_tk (p : Bp) : isTK (bK p) = true := by
  obtain ⟨s0, s1⟩ := p
  cases s0 <;> cases s1 <;> rfl
theorem cod_bp : CodOk bD := ⟨fun p => by simp [tkD, bp_toK, bp_tk], fun p q h => by
  rw [bp_toK, bp_toK] at h
  obtain ⟨s0, s1⟩ := p
  obtain ⟨t0, t1⟩ := q
  simp [bK] at h
  have h1 := st_inj h.1
  have h2 := st_inj h.2
  subst h1 h2; rfl⟩
def turnsL : List Tn := [.own .pick, .own .ask, .own .take, .own .tell, .own .leave, .hear .ask false, .hear .ask true, .hear .tell false, .hear .tell true, .hear .answer false, .hear .answer true]
theorem turns_eq : c_TURNS = .tup (turnsL.map Tn.d) := rfl
theorem lturns_ok : M_law_turns [] = .ok (.lst (turnsL.map Tn.d)) := by kernel_rfl
def start : Bp := ⟨.free 0, .free 0⟩
/-- the words' lists are right -/
structure okR (r : Rl) : Prop where
  m0 : 0 < r.meets.length
  s0 : 0 < r.stands.length
  m3 : r.meets.length ≤ 3
  s3 : r.stands.length ≤ 3
  a9 : r.asks ≤ 2
  t3 : r.tells ≤ 2
def okB (a b : Rl) (p : Bp) : Prop := okS a p.1 ∧ okS b p.2
/-- whether pairs show it -/
def goodT (a b : Rl) (ks : List Bp) (p : Bp) : Bool := turnsL.all fun t => !((stepT a b p t).1 || (match (stepT a b p t).2 with | some q => !decide (q ∈ ks) | none => false))
def alikeK (a b : Rl) (ks : List Bp) : Bool := decide (start ∈ ks) && ks.all (goodT a b ks)
def kn (ps : List Bp) : List (Bp × Unit) := puts [] (ps.map fun p => (p, ()))
def alikeT (a b : Rl) (ps : List Bp) : Bool := alikeK a b (keysOf (kn ps))
def knD (m : List (Bp × Unit)) : D := dctOf bD (fun _ => .bl true) m
theorem check2 (a b : Rl) : M_check_two [a.d, b.d] = .ok .non := by
  simp [M_check_two, F_check_two, startR, bindS, sp1, Src.ev, M_check_rule, F_check_rule, Rl.d, isiF, topIn, clsT, isi1, subT]
/-- the dict of the pairs -/
theorem knd_ok (ps : List Bp) (hl : ps.length ≤ sizeLine) : biDictP [.lst (ps.map fun p => .tup [bD p, .bl true])] = .ok (knD (kn ps)) := by
  have := dictP_cod (c := bD) (e := fun _ : Unit => .bl true) cod_bp (ps.map fun p => (p, ())) (by simpa using hl)
  simpa [List.map_map, Function.comp_def, kn, knD] using this
theorem lc_pairs (ps : List Bp) (ρ : Rho) (hρ : ρ.length = 8) : lcGo (Tg.bind (.n 4)) yesF (mkT (consL (rdV 4) (consL (constF (.bl true)) nilL))) ρ (ps.map bD) = .ok (ps.map fun p => .tup [bD p, .bl true]) := by
  have z : ∀ n : Nat, n ≤ 100 → n ≤ sizeLine := fun n h => le2 h
  induction ps with
  | nil => rfl
  | cons p ps ih =>
    have e1 : rdV 4 (ρ.set 4 (some (false, bD p))) = .ok (bD p) := by
      unfold rdV; rw [List.getElem?_set_self (by omega)]
    simp only [List.map_cons, lcGo, s_tgn]
    simp [yesF, e1, z, ih]
end K35
set_option Elab.async false
set_option linter.all false
set_option maxRecDepth 100000
set_option maxHeartbeats 4000000
namespace K35
open PySem L2 BV
def Alike_shows_b1 : Rho → Out := (seqF (par2 6 7 false false (callF 3 0 (srcP 3) M_turned (consL (rdV 1) (consL (bin2 opIx (rdP 4) (constF (.int 0))) (consL (rdV 5) nilL))) nilL) (callF 3 0 (srcP 3) M_turned (consL (rdV 2) (consL (bin2 opIx (rdP 4) (constF (.int 1))) (consL (rdV 5) nilL))) nilL)) (seqF (ifF (tst (callF 2 0 (srcP 2) M_is_parted (consL (rdV 6) (consL (rdV 7) nilL)) nilL)) (seqF (retF (constF (.bl false))) nxF) nxF) (seqF (ifF (andB (tst (bin2 opNotN (rdP 6) (constF .non))) (tst (bin2 opNinK (mkT (consL (bin2 opIx (rdP 6) (constF (.int 0))) (consL (bin2 opIx (rdP 7) (constF (.int 0))) nilL))) (rdP 3)))) (seqF (retF (constF (.bl false))) nxF) nxF) nxF)))
def Alike_shows_b2 : Rho → Out := (seqF (forF (.n 5) (itSeq (constF c_TURNS)) Alike_shows_b1) nxF)
theorem Alike_shows_eq : F_Alike_shows = (seqF (exprF (callF 2 0 (srcP 2) M_check_two (consL (rdV 1) (consL (rdV 2) nilL)) nilL)) (seqF (letF 3 (appL biDictP (consL (lcF (.n 4) [4] yesF (mkT (consL (rdV 4) (consL (constF (.bl true)) nilL))) (itSeq (bndF (evA flds MA_legs ("legs" : Str) al_legs) (rdV 0)))) nilL))) (seqF (ifF (tst (bin2 opNinK (mkT (consL (mkT (consL (constF (.str ("free" : Str))) (consL (constF (.int 0)) nilL))) (consL (mkT (consL (constF (.str ("free" : Str))) (consL (constF (.int 0)) nilL))) nilL))) (rdP 3))) (seqF (retF (constF (.bl false))) nxF) nxF) (seqF (forF (.n 4) (itKeys (rdV 3)) Alike_shows_b2) (seqF (retF (constF (.bl true))) nxF))))) := rfl
def law_is_alike_b1 : Rho → Out := (seqF (tgtF (.t [6, 7]) (callF 4 0 (srcP 4) M_law_parted (consL (rdV 0) (consL (rdV 1) (consL (rdV 4) (consL (rdV 5) nilL)))) nilL)) (seqF (ifF (orB (tst (rdV 6)) (andB (tst (bin2 opNotN (rdP 7) (constF .non))) (tst (bin2 opNinK (rdP 7) (rdP 3))))) (seqF (retF (constF (.bl false))) nxF) nxF) nxF))
def law_is_alike_b2 : Rho → Out := (seqF (forF (.n 5) (itSeq (callF 0 0 (srcP 0) M_law_turns nilL nilL)) law_is_alike_b1) nxF)
theorem law_is_alike_eq : F_law_is_alike = (seqF (letF 3 (appL biDictP (consL (lcF (.n 4) [4] yesF (mkT (consL (rdV 4) (consL (constF (.bl true)) nilL))) (itSeq (rdV 2))) nilL))) (seqF (ifF (tst (bin2 opNinK (mkT (consL (mkT (consL (constF (.str ("free" : Str))) (consL (constF (.int 0)) nilL))) (consL (mkT (consL (constF (.str ("free" : Str))) (consL (constF (.int 0)) nilL))) nilL))) (rdP 3))) (seqF (retF (constF (.bl false))) nxF) nxF) (seqF (forF (.n 4) (itKeys (rdV 3)) law_is_alike_b2) (seqF (retF (constF (.bl true))) nxF)))) := rfl
def Parted_shows_b1 : Rho → Out := (seqF (par2 7 8 false false (callF 3 0 (srcP 3) M_turned (consL (rdV 1) (consL (rdV 3) (consL (rdV 6) nilL))) nilL) (callF 3 0 (srcP 3) M_turned (consL (rdV 2) (consL (rdV 4) (consL (rdV 6) nilL))) nilL)) (seqF (ifF (tst (callF 2 0 (srcP 2) M_is_parted (consL (rdV 7) (consL (rdV 8) nilL)) nilL)) (seqF (retF (bin2 opEq (rdP 5) (bin2 opSub (appL (Bi.ev .len) (consL (bndF (evA flds MA_turns ("turns" : Str) al_turns) (rdV 0)) nilL)) (constF (.int 1))))) nxF) nxF) (seqF (ifF (tst (bin2 opIsN (rdP 7) (constF .non))) (seqF (retF (constF (.bl false))) nxF) nxF) (seqF (par2 3 4 false false (bin2 opIx (rdP 7) (constF (.int 0))) (bin2 opIx (rdP 8) (constF (.int 0)))) nxF))))
theorem Parted_shows_eq : F_Parted_shows = (seqF (exprF (callF 2 0 (srcP 2) M_check_two (consL (rdV 1) (consL (rdV 2) nilL)) nilL)) (seqF (tgtF (.t [3, 4]) (mkT (consL (mkT (consL (constF (.str ("free" : Str))) (consL (constF (.int 0)) nilL))) (consL (mkT (consL (constF (.str ("free" : Str))) (consL (constF (.int 0)) nilL))) nilL)))) (seqF (forF (.t [5, 6]) (itEnum (bndF (evA flds MA_turns ("turns" : Str) al_turns) (rdV 0))) Parted_shows_b1) (seqF (retF (constF (.bl false))) nxF)))) := rfl
def law_is_parting_b1 : Rho → Out := (seqF (tgtF (.t [6, 7]) (callF 4 0 (srcP 4) M_law_parted (consL (rdV 0) (consL (rdV 1) (consL (rdV 3) (consL (rdV 5) nilL)))) nilL)) (seqF (ifF (orB (tst (rdV 6)) (tst (bin2 opIsN (rdP 7) (constF .non)))) (seqF (retF (andV (rdV 6) (bin2 opEq (rdP 4) (bin2 opSub (appL (Bi.ev .len) (consL (rdP 2) nilL)) (constF (.int 1)))))) nxF) nxF) (seqF (letF 3 (rdV 7)) nxF)))
theorem law_is_parting_eq : F_law_is_parting = (seqF (letF 3 (mkT (consL (mkT (consL (constF (.str ("free" : Str))) (consL (constF (.int 0)) nilL))) (consL (mkT (consL (constF (.str ("free" : Str))) (consL (constF (.int 0)) nilL))) nilL)))) (seqF (forF (.t [4, 5]) (itEnum (rdV 2)) law_is_parting_b1) (seqF (retF (constF (.bl false))) nxF))) := rfl


theorem legs_at (l : List D) : evA flds MA_legs ("legs" : Str) al_legs (.ins 2 [.lst l]) = .ok (.lst l) := by
  simp [evA, al_legs, MA_legs, flds]
theorem turns_at (l : List D) : evA flds MA_turns ("turns" : Str) al_turns (.ins 3 [.lst l]) = .ok (.lst l) := by
  simp [evA, al_turns, MA_turns, flds]
theorem nin_bp (q : Bp) (m : List (Bp × Unit)) : opNinK (.tup [q.1.d, q.2.d]) (knD m) = .ok (.bl (!decide (q ∈ keysOf m))) := ninK_cod cod_bp q m
theorem nin_bD (q : Bp) (m : List (Bp × Unit)) : opNinK (bD q) (knD m) = .ok (.bl (!decide (q ∈ keysOf m))) := ninK_cod cod_bp q m
def ok1 (a b : Rl) (ks : List Bp) (p : Bp) (t : Tn) : Bool := !((stepT a b p t).1 || (match (stepT a b p t).2 with | some q => !decide (q ∈ ks) | none => false))
theorem b1_ok (a b : Rl) (m : List (Bp × Unit)) (p : Bp) (t : Tn) (h : okB a b p) {s0 s6 s7 : Option Slot} :
    if ok1 a b (keysOf m) p t = true then ∃ t6 t7, Alike_shows_b1 [s0, some (false, a.d), some (false, b.d), some (false, knD m), some (false, bD p), some (false, t.d), s6, s7] = .nx [s0, some (false, a.d), some (false, b.d), some (false, knD m), some (false, bD p), some (false, t.d), t6, t7]
    else Alike_shows_b1 [s0, some (false, a.d), some (false, b.d), some (false, knD m), some (false, bD p), some (false, t.d), s6, s7] = .rt (.bl false) := by
  have z : ∀ n : Nat, n ≤ 100 → n ≤ sizeLine := fun n h => le2 h
  have q1 := turned_ok a p.1 t h.1
  have q2 := turned_ok b p.2 t h.2
  have q3 := parted_ok a b p t h.1 h.2
  unfold ok1
  cases hs : (stepT a b p t).1 <;> rw [hs] at q3
  · cases e1 : turnT a p.1 t <;> cases e2 : turnT b p.2 t <;> rw [e1] at q1 q3 <;> rw [e2] at q2 q3
    · have : (stepT a b p t).2 = none := by simp [stepT, e1, e2]
      rw [this]
      simp [Alike_shows_b1, bindS, sp3, sp2, Src.ev, bD, q1, q2, q3, tD_non]
    · simp [stepT, e1, e2] at hs
    · simp [stepT, e1, e2] at hs
    · rename_i x y
      have : (stepT a b p t).2 = some ⟨x.1, y.1⟩ := by simp [stepT, e1, e2]
      rw [this]
      have q4 := nin_bp ⟨x.1, y.1⟩ m
      by_cases hm : (⟨x.1, y.1⟩ : Bp) ∈ keysOf m <;> simp [hm] at q4 <;> simp [Alike_shows_b1, bindS, sp3, sp2, Src.ev, bD, q1, q2, q3, q4, tD_non, tD, z, hm] <;> (simp only [tD] at q3; simp [q3, tD, z, q4])
  · simp [Alike_shows_b1, bindS, sp3, sp2, Src.ev, bD, q1, q2, q3]
end K35
set_option Elab.async false
set_option linter.all false
set_option maxRecDepth 100000
set_option maxHeartbeats 4000000
namespace K35
open PySem L2 BV
theorem start_d : (D.tup [.tup [.str ("free" : Str), .int 0], .tup [.str ("free" : Str), .int 0]]) = bD start := by simp [bD, start, St.d]
/-- the inner loop of shows -/
theorem b2_ok (a b : Rl) (m : List (Bp × Unit)) (p : Bp) (h : okB a b p) {s0 s5 s6 s7 : Option Slot} :
    if goodT a b (keysOf m) p = true then ∃ t5 t6 t7, Alike_shows_b2 [s0, some (false, a.d), some (false, b.d), some (false, knD m), some (false, bD p), s5, s6, s7] = .nx [s0, some (false, a.d), some (false, b.d), some (false, knD m), some (false, bD p), t5, t6, t7]
    else Alike_shows_b2 [s0, some (false, a.d), some (false, b.d), some (false, knD m), some (false, bD p), s5, s6, s7] = .rt (.bl false) := by
  have key := for_check (enc := Tn.d) (bind := Tg.bind (.n 5)) (body := Alike_shows_b1) (good := ok1 a b (keysOf m) p) (d := .bl false)
    (Inv := fun ρ => ∃ t5 t6 t7, ρ = [s0, some (false, a.d), some (false, b.d), some (false, knD m), some (false, bD p), t5, t6, t7]) (l := turnsL) (fun t _ ρ ⟨t5, t6, t7, e⟩ => by
      subst e
      refine ⟨[s0, some (false, a.d), some (false, b.d), some (false, knD m), some (false, bD p), some (false, t.d), t6, t7], by simp, ?_⟩
      have := b1_ok a b m p t h (s0 := s0) (s6 := t6) (s7 := t7)
      cases hg : ok1 a b (keysOf m) p t <;> rw [hg] at this
      · simpa using this
      · simp only [if_true] at this ⊢
        obtain ⟨u6, u7, e⟩ := this
        exact ⟨_, e, _, _, _, rfl⟩) _ ⟨s5, s6, s7, rfl⟩
  have hg : goodT a b (keysOf m) p = turnsL.all (ok1 a b (keysOf m) p) := rfl
  rw [hg]
  cases hh : turnsL.all (ok1 a b (keysOf m) p) <;> rw [hh] at key
  · simp only [Bool.false_eq_true, if_false] at key ⊢
    simp [Alike_shows_b2, turns_eq, key]
  · simp only [if_true] at key ⊢
    obtain ⟨ρ', e1, t5, t6, t7, e2⟩ := key
    subst e2
    exact ⟨t5, t6, t7, by simp [Alike_shows_b2, turns_eq, e1]⟩
theorem kn_ok {ps : List Bp} {P : Bp → Prop} (h : ∀ p ∈ ps, P p) : ∀ p ∈ keysOf (kn ps), P p := fun p hp => by
  unfold kn at hp
  rw [puts_keys] at hp
  simp [keysOf] at hp
  exact h p hp
theorem shows_ok (a b : Rl) (ps : List Bp) (h : ∀ p ∈ ps, okB a b p) (hl : ps.length ≤ sizeLine) : M_Alike_shows [.ins 2 [.lst (ps.map bD)], a.d, b.d] = .ok (.bl (alikeT a b ps)) := by
  have z : ∀ n : Nat, n ≤ 100 → n ≤ sizeLine := fun n h => le2 h
  have hk := kn_ok h
  have e1 := lc_pairs ps [some (false, .ins 2 [.lst (ps.map bD)]), some (false, a.d), some (false, b.d), none, none, none, none, none] rfl
  have e2 := knd_ok ps hl
  have e3 := nin_bD start (kn ps)
  have hw : wipeR [some (false, .ins 2 [.lst (ps.map bD)]), some (false, a.d), some (false, b.d), none, none, none, none, none] [4] = [some (false, .ins 2 [.lst (ps.map bD)]), some (false, a.d), some (false, b.d), none, none, none, none, none] := rfl
  unfold alikeT alikeK
  by_cases hs : start ∈ keysOf (kn ps)
  · have key := for_check (enc := bD) (bind := Tg.bind (.n 4)) (body := Alike_shows_b2) (good := goodT a b (keysOf (kn ps))) (d := .bl false)
      (Inv := fun ρ => ∃ t4 t5 t6 t7, ρ = [some (false, .ins 2 [.lst (ps.map bD)]), some (false, a.d), some (false, b.d), some (false, knD (kn ps)), t4, t5, t6, t7]) (l := keysOf (kn ps)) (fun p hp ρ ⟨t4, t5, t6, t7, e⟩ => by
        subst e
        refine ⟨[some (false, .ins 2 [.lst (ps.map bD)]), some (false, a.d), some (false, b.d), some (false, knD (kn ps)), some (false, bD p), t5, t6, t7], by simp, ?_⟩
        have := b2_ok a b (kn ps) p (hk p hp) (s0 := some (false, .ins 2 [.lst (ps.map bD)])) (s5 := t5) (s6 := t6) (s7 := t7)
        cases hg : goodT a b (keysOf (kn ps)) p <;> rw [hg] at this
        · simpa using this
        · simp only [if_true] at this ⊢
          obtain ⟨u5, u6, u7, e⟩ := this
          exact ⟨_, e, _, _, _, _, rfl⟩) _ ⟨none, none, none, none, rfl⟩
    have hkeys : keysD (knD (kn ps)) = .ok ((keysOf (kn ps)).map bD) := keysD_cod
    have e4 : M_Alike_shows [.ins 2 [.lst (ps.map bD)], a.d, b.d] = outR (seqO (forGo (Tg.bind (.n 4)) Alike_shows_b2 ((keysOf (kn ps)).map bD) [some (false, .ins 2 [.lst (ps.map bD)]), some (false, a.d), some (false, b.d), some (false, knD (kn ps)), none, none, none, none]) (seqF (retF (constF (.bl true))) nxF)) := by
      simp [M_Alike_shows, Alike_shows_eq, startR, List.replicate, bindS, sp2, Src.ev, check2, legs_at, lcF, hl, hw, e1, e2, z, start_d, e3, hs, itKeys, hkeys]
    rw [e4]
    cases hh : (keysOf (kn ps)).all (goodT a b (keysOf (kn ps))) <;> rw [hh] at key
    · simp only [Bool.false_eq_true, if_false] at key
      rw [key]; simp [hs]
    · simp only [if_true] at key
      obtain ⟨ρ', e5, t4, t5, t6, t7, e6⟩ := key
      subst e6
      rw [e5]; simp [hs]
  · simp [M_Alike_shows, Alike_shows_eq, startR, List.replicate, bindS, sp2, Src.ev, check2, legs_at, lcF, hl, hw, e1, e2, z, start_d, e3, hs]
end K35
set_option Elab.async false
set_option linter.all false
set_option maxRecDepth 100000
set_option maxHeartbeats 4000000
namespace K35
open PySem L2 BV
theorem obD_non (o : Option Bp) : (obD o).isNon = o.isNone := by cases o <;> rfl
theorem bD_non (v : Bp) : (bD v).isNon = false := rfl
theorem lb1_ok (a b : Rl) (m : List (Bp × Unit)) (p : Bp) (t : Tn) (h : okB a b p) {s2 s6 s7 : Option Slot} :
    if ok1 a b (keysOf m) p t = true then ∃ t6 t7, law_is_alike_b1 [some (false, a.row), some (false, b.row), s2, some (false, knD m), some (false, bD p), some (false, t.d), s6, s7] = .nx [some (false, a.row), some (false, b.row), s2, some (false, knD m), some (false, bD p), some (false, t.d), t6, t7]
    else law_is_alike_b1 [some (false, a.row), some (false, b.row), s2, some (false, knD m), some (false, bD p), some (false, t.d), s6, s7] = .rt (.bl false) := by
  have q := lparted_ok a b p t h.1 h.2
  unfold ok1
  cases hs : (stepT a b p t).1 <;> cases hl : (stepT a b p t).2 <;> rw [hs, hl] at q
  · simp only [obD] at q
    simp [law_is_alike_b1, bindS, sp4, Src.ev, q]
  · rename_i v
    simp only [obD] at q
    have q4 := nin_bD v m
    by_cases hm : v ∈ keysOf m <;> simp [hm] at q4 <;> simp [law_is_alike_b1, bindS, sp4, Src.ev, q, q4, hm, bD_non]
  · simp [law_is_alike_b1, bindS, sp4, Src.ev, q]
  · simp [law_is_alike_b1, bindS, sp4, Src.ev, q]
theorem lb2_ok (a b : Rl) (m : List (Bp × Unit)) (p : Bp) (h : okB a b p) {s2 s5 s6 s7 : Option Slot} :
    if goodT a b (keysOf m) p = true then ∃ t5 t6 t7, law_is_alike_b2 [some (false, a.row), some (false, b.row), s2, some (false, knD m), some (false, bD p), s5, s6, s7] = .nx [some (false, a.row), some (false, b.row), s2, some (false, knD m), some (false, bD p), t5, t6, t7]
    else law_is_alike_b2 [some (false, a.row), some (false, b.row), s2, some (false, knD m), some (false, bD p), s5, s6, s7] = .rt (.bl false) := by
  have key := for_check (enc := Tn.d) (bind := Tg.bind (.n 5)) (body := law_is_alike_b1) (good := ok1 a b (keysOf m) p) (d := .bl false)
    (Inv := fun ρ => ∃ t5 t6 t7, ρ = [some (false, a.row), some (false, b.row), s2, some (false, knD m), some (false, bD p), t5, t6, t7]) (l := turnsL) (fun t _ ρ ⟨t5, t6, t7, e⟩ => by
      subst e
      refine ⟨[some (false, a.row), some (false, b.row), s2, some (false, knD m), some (false, bD p), some (false, t.d), t6, t7], by simp, ?_⟩
      have := lb1_ok a b m p t h (s2 := s2) (s6 := t6) (s7 := t7)
      cases hg : ok1 a b (keysOf m) p t <;> rw [hg] at this
      · simpa using this
      · simp only [if_true] at this ⊢
        obtain ⟨u6, u7, e⟩ := this
        exact ⟨_, e, _, _, _, rfl⟩) _ ⟨s5, s6, s7, rfl⟩
  have hg : goodT a b (keysOf m) p = turnsL.all (ok1 a b (keysOf m) p) := rfl
  rw [hg]
  cases hh : turnsL.all (ok1 a b (keysOf m) p) <;> rw [hh] at key
  · simp only [Bool.false_eq_true, if_false] at key ⊢
    simp [law_is_alike_b2, lturns_ok, bindS, sp0, key]
  · simp only [if_true] at key ⊢
    obtain ⟨ρ', e1, t5, t6, t7, e2⟩ := key
    subst e2
    exact ⟨t5, t6, t7, by simp [law_is_alike_b2, lturns_ok, bindS, sp0, e1]⟩
theorem lalike_ok (a b : Rl) (ps : List Bp) (h : ∀ p ∈ ps, okB a b p) (hl : ps.length ≤ sizeLine) : M_law_is_alike [a.row, b.row, .lst (ps.map bD)] = .ok (.bl (alikeT a b ps)) := by
  have z : ∀ n : Nat, n ≤ 100 → n ≤ sizeLine := fun n h => le2 h
  have hk := kn_ok h
  have e1 := lc_pairs ps [some (false, a.row), some (false, b.row), some (false, .lst (ps.map bD)), none, none, none, none, none] rfl
  have e2 := knd_ok ps hl
  have e3 := nin_bD start (kn ps)
  have hw : wipeR [some (false, a.row), some (false, b.row), some (false, .lst (ps.map bD)), none, none, none, none, none] [4] = [some (false, a.row), some (false, b.row), some (false, .lst (ps.map bD)), none, none, none, none, none] := rfl
  unfold alikeT alikeK
  by_cases hs : start ∈ keysOf (kn ps)
  · have key := for_check (enc := bD) (bind := Tg.bind (.n 4)) (body := law_is_alike_b2) (good := goodT a b (keysOf (kn ps))) (d := .bl false)
      (Inv := fun ρ => ∃ t4 t5 t6 t7, ρ = [some (false, a.row), some (false, b.row), some (false, .lst (ps.map bD)), some (false, knD (kn ps)), t4, t5, t6, t7]) (l := keysOf (kn ps)) (fun p hp ρ ⟨t4, t5, t6, t7, e⟩ => by
        subst e
        refine ⟨[some (false, a.row), some (false, b.row), some (false, .lst (ps.map bD)), some (false, knD (kn ps)), some (false, bD p), t5, t6, t7], by simp, ?_⟩
        have := lb2_ok a b (kn ps) p (hk p hp) (s2 := some (false, .lst (ps.map bD))) (s5 := t5) (s6 := t6) (s7 := t7)
        cases hg : goodT a b (keysOf (kn ps)) p <;> rw [hg] at this
        · simpa using this
        · simp only [if_true] at this ⊢
          obtain ⟨u5, u6, u7, e⟩ := this
          exact ⟨_, e, _, _, _, _, rfl⟩) _ ⟨none, none, none, none, rfl⟩
    have hkeys : keysD (knD (kn ps)) = .ok ((keysOf (kn ps)).map bD) := keysD_cod
    have e4 : M_law_is_alike [a.row, b.row, .lst (ps.map bD)] = outR (seqO (forGo (Tg.bind (.n 4)) law_is_alike_b2 ((keysOf (kn ps)).map bD) [some (false, a.row), some (false, b.row), some (false, .lst (ps.map bD)), some (false, knD (kn ps)), none, none, none, none]) (seqF (retF (constF (.bl true))) nxF)) := by
      simp [M_law_is_alike, law_is_alike_eq, startR, List.replicate, lcF, hl, hw, e1, e2, z, start_d, e3, hs, itKeys, hkeys]
    rw [e4]
    cases hh : (keysOf (kn ps)).all (goodT a b (keysOf (kn ps))) <;> rw [hh] at key
    · simp only [Bool.false_eq_true, if_false] at key
      rw [key]; simp [hs]
    · simp only [if_true] at key
      obtain ⟨ρ', e5, t4, t5, t6, t7, e6⟩ := key
      subst e6
      rw [e5]; simp [hs]
  · simp [M_law_is_alike, law_is_alike_eq, startR, List.replicate, lcF, hl, hw, e1, e2, z, start_d, e3, hs]
end K35
set_option Elab.async false
set_option linter.all false
set_option maxRecDepth 100000
set_option maxHeartbeats 4000000
namespace K35
open PySem L2 BV
def partG (a b : Rl) (n : Nat) : Nat → Bp → List Tn → Bool
  | _, _, [] => false
  | i, p, t :: ts => if (stepT a b p t).1 then decide (i + 1 = n) else match (stepT a b p t).2 with
    | none => false
    | some q => partG a b n (i + 1) q ts
def partT (a b : Rl) (ts : List Tn) : Bool := partG a b ts.length 0 start ts
def enT (i : Nat) : List Tn → List D
  | [] => []
  | t :: ts => .tup [.int (i : Nat), t.d] :: enT (i + 1) ts
theorem en_eq (ts : List Tn) : enumD (ts.map Tn.d) = enT 0 ts := by
  have : ∀ (ts : List Tn) (i : Nat), ((ts.map Tn.d).zipIdx i).map (fun p => D.tup [.int p.2, p.1]) = enT i ts := by
    intro ts
    induction ts with
    | nil => intro i; rfl
    | cons t ts ih => intro i; simp [enT, ih]
  exact this ts 0
/-- states behind turns are states -/
theorem own_okS {r : Rl} {st m : St} {w : Ow} (h : okS r st) (hr : okR r) (e : ownT r st w = some m) : okS r m := by
  cases w <;> cases st <;> simp [ownT] at e
  · subst e; exact ⟨Nat.le_refl _, h⟩
  · rename_i n g
    cases n with
    | zero => simp [ownT] at e
    | succ n => simp [ownT] at e; subst e; exact ⟨by have := h.1; omega, h.2⟩
  · rename_i n g
    cases n with
    | zero => simp [ownT] at e; subst e; exact ⟨by omega, hr.s0⟩
    | succ n => simp [ownT] at e
  · obtain ⟨_, rfl⟩ := e; exact ⟨by have := h.1; omega, h.2⟩
  · subst e; exact h.2
  · subst e; exact hr.m0
theorem heard_okS {r : Rl} {st : St} {lt : Lt} {l : Bool} (h : okS r st) (hr : okR r) : okS r (heardT r st lt l).1 := by
  have hm := hr.m0
  have hs := hr.s0
  cases st with
  | free g => cases lt <;> exact h
  | ask n g =>
    cases lt
    · simp only [heardT]; split
      · show min (g + 1) (r.meets.length - 1) < r.meets.length; omega
      · exact h
    · exact h.2
    · exact h.2
  | hold o s =>
    cases lt
    · exact h
    · simp only [heardT]; split
      · exact hm
      · have := h.1; exact ⟨by omega, by show min (s + 1) (r.stands.length - 1) < _; omega⟩
    · exact h
theorem turn_okS {r : Rl} {st : St} {t : Tn} {x : St × Bool} (h : okS r st) (hr : okR r) (e : turnT r st t = some x) : okS r x.1 := by
  cases t with
  | own w =>
    simp only [turnT, Option.map_eq_some_iff] at e
    obtain ⟨m, e1, rfl⟩ := e
    exact own_okS h hr e1
  | hear lt l =>
    simp only [turnT] at e
    split at e
    · cases e
    · cases e; exact heard_okS h hr
theorem step_okB {a b : Rl} {p q : Bp} {t : Tn} (h : okB a b p) (ha : okR a) (hb : okR b) (e : (stepT a b p t).2 = some q) : okB a b q := by
  unfold stepT at e
  split at e <;> simp at e
  rename_i x y e1 e2
  subst e
  exact ⟨turn_okS h.1 ha e1, turn_okS h.2 hb e2⟩
theorem pb_ok (a b : Rl) (ha : okR a) (hb : okR b) (n : Nat) (l : List D) (hl : l.length = n) : ∀ (ts : List Tn) (i : Nat) (p : Bp) (s5 s6 s7 s8 : Option Slot), okB a b p →
    outR (seqO (forGo (Tg.bind (.t [5, 6])) Parted_shows_b1 (enT i ts) [some (false, .ins 3 [.lst l]), some (false, a.d), some (false, b.d), some (false, p.x.d), some (false, p.y.d), s5, s6, s7, s8]) (seqF (retF (constF (.bl false))) nxF)) = .ok (.bl (partG a b n i p ts))
  | [], i, p, s5, s6, s7, s8, h => by simp [enT, partG]
  | t :: ts, i, p, s5, s6, s7, s8, h => by
    have z : ∀ n : Nat, n ≤ 100 → n ≤ sizeLine := fun n h => le2 h
    have q1 := turned_ok a p.x t h.1
    have q2 := turned_ok b p.y t h.2
    have q3 := parted_ok a b p t h.1 h.2
    have hdec : decide ((i : Int) = (n : Int) - 1) = decide (i + 1 = n) := by
      apply decide_eq_decide.mpr; omega
    unfold partG
    cases hs : (stepT a b p t).1 <;> rw [hs] at q3
    · cases e1 : turnT a p.x t <;> cases e2 : turnT b p.y t <;> rw [e1] at q1 q3 <;> rw [e2] at q2 q3
      · have : (stepT a b p t).2 = none := by simp [stepT, e1, e2]
        rw [this]
        simp [enT, Parted_shows_b1, bindS, sp3, sp2, Src.ev, q1, q2, q3, tD_non]
      · simp [stepT, e1, e2] at hs
      · simp [stepT, e1, e2] at hs
      · rename_i x y
        have e3 : (stepT a b p t).2 = some ⟨x.1, y.1⟩ := by simp [stepT, e1, e2]
        rw [e3]
        have ih := pb_ok a b ha hb n l hl ts (i + 1) ⟨x.1, y.1⟩ (some (false, .int i)) (some (false, t.d)) (some (false, tD (some x))) (some (false, tD (some y))) (step_okB h ha hb e3)
        simp only [tD] at q1 q2 q3 ih
        simp only [Bool.false_eq_true, if_false]
        rw [← ih]
        simp [enT, Parted_shows_b1, bindS, sp3, sp2, Src.ev, q1, q2, q3]
    · simp [enT, Parted_shows_b1, bindS, sp3, sp2, Src.ev, q1, q2, q3, turns_at, hl, hdec]
theorem pshows_ok (a b : Rl) (ha : okR a) (hb : okR b) (ts : List Tn) : M_Parted_shows [.ins 3 [.lst (ts.map Tn.d)], a.d, b.d] = .ok (.bl (partT a b ts)) := by
  have z : ∀ n : Nat, n ≤ 100 → n ≤ sizeLine := fun n h => le2 h
  have key := pb_ok a b ha hb ts.length (ts.map Tn.d) (by simp) ts 0 start none none none none ⟨ha.m0, hb.m0⟩
  rw [partT, ← key]
  simp [M_Parted_shows, Parted_shows_eq, startR, List.replicate, bindS, sp2, Src.ev, check2, turns_at, z, en_eq, start, St.d]
theorem lp_ok (a b : Rl) (ha : okR a) (hb : okR b) (n : Nat) (l : List D) (hl : l.length = n) : ∀ (ts : List Tn) (i : Nat) (p : Bp) (s4 s5 s6 s7 : Option Slot), okB a b p →
    outR (seqO (forGo (Tg.bind (.t [4, 5])) law_is_parting_b1 (enT i ts) [some (false, a.row), some (false, b.row), some (false, .lst l), some (false, bD p), s4, s5, s6, s7]) (seqF (retF (constF (.bl false))) nxF)) = .ok (.bl (partG a b n i p ts))
  | [], i, p, s4, s5, s6, s7, h => by simp [enT, partG]
  | t :: ts, i, p, s4, s5, s6, s7, h => by
    have q := lparted_ok a b p t h.1 h.2
    have hdec : decide ((i : Int) = (n : Int) - 1) = decide (i + 1 = n) := by
      apply decide_eq_decide.mpr; omega
    unfold partG
    cases hs : (stepT a b p t).1 <;> rw [hs] at q
    · cases e3 : (stepT a b p t).2 with
      | none =>
        rw [e3] at q
        simp only [obD] at q
        simp [enT, law_is_parting_b1, bindS, sp4, Src.ev, q]
      | some v =>
        rw [e3] at q
        simp only [obD] at q
        have ih := lp_ok a b ha hb n l hl ts (i + 1) v (some (false, .int i)) (some (false, t.d)) (some (false, .bl false)) (some (false, bD v)) (step_okB h ha hb e3)
        simp only [Bool.false_eq_true, if_false]
        rw [← ih]
        simp [enT, law_is_parting_b1, bindS, sp4, Src.ev, q, bD_non]
    · simp [enT, law_is_parting_b1, bindS, sp4, Src.ev, q, hl, hdec]
theorem lparting_ok (a b : Rl) (ha : okR a) (hb : okR b) (ts : List Tn) : M_law_is_parting [a.row, b.row, .lst (ts.map Tn.d)] = .ok (.bl (partT a b ts)) := by
  have z : ∀ n : Nat, n ≤ 100 → n ≤ sizeLine := fun n h => le2 h
  have key := lp_ok a b ha hb ts.length (ts.map Tn.d) (by simp) ts 0 start none none none none ⟨ha.m0, hb.m0⟩
  rw [partT, ← key]
  simp [M_law_is_parting, law_is_parting_eq, startR, List.replicate, z, en_eq, start_d]
end K35
set_option Elab.async false
set_option linter.all false
set_option maxRecDepth 100000
set_option maxHeartbeats 4000000
namespace K35
open PySem L2 BV
def law_reach_b1 : Rho → Out := (seqF (letF 7 (bin2 opIx (callF 4 0 (srcP 4) M_law_parted (consL (rdV 0) (consL (rdV 1) (consL (rdV 5) (consL (rdV 6) nilL)))) nilL) (constF (.int 1)))) (seqF (ifF (andB (tst (bin2 opNotN (rdP 7) (constF .non))) (tst (bin2 opNinK (rdP 7) (rdP 3)))) (seqF (setKF 3 (rdV 7) (bin2 opAdd (bin2 opIxK (rdP 3) (rdP 5)) (mkL (consL (rdV 6) nilL)))) (seqF (appF 4 (rdV 7)) nxF)) nxF) nxF))
def law_reach_b2 : Rho → Out := (seqF (popAtF 5 4 (constF (.int 0))) (seqF (forF (.n 6) (itSeq (callF 0 0 (srcP 0) M_law_turns nilL nilL)) law_reach_b1) nxF))
def law_reach_b3 : Rho → R Bool := (tst (bin2 opNe (rdP 4) (mkL nilL)))
theorem law_reach_eq : F_law_reach = (seqF (letF 2 (mkT (consL (mkT (consL (constF (.str ("free" : Str))) (consL (constF (.int 0)) nilL))) (consL (mkT (consL (constF (.str ("free" : Str))) (consL (constF (.int 0)) nilL))) nilL)))) (seqF (par2 3 4 true true (appL biDictP (consL (mkL (consL (mkT (consL (rdV 2) (consL (mkL nilL) nilL))) nilL)) nilL)) (mkL (consL (rdV 2) nilL))) (seqF (whGo law_reach_b3 law_reach_b2 100000) (seqF (retF (rdP 3)) nxF)))) := rfl


/-! ### the law's search -/
abbrev Ms := List (Bp × List Tn)
def tsD (ts : List Tn) : D := .lst (ts.map Tn.d)
def msD (m : Ms) : D := dctOf bD tsD m
theorem own_ms {m : Ms} : ownD (msD m) = true := rfl
@[simp] theorem rd_ms {m : Ms} {r : Rho} : rdP 0 (some (true, msD m) :: r) = .ok (msD m) := rfl
structure RI (a b : Rl) (m : Ms) : Prop where
  nd : (keysOf m).Nodup
  ok : ∀ p ∈ keysOf m, okB a b p
  len : ∀ x ∈ m, x.2.length < m.length
  st : start ∈ keysOf m
def addT (a b : Rl) (p : Bp) (s : Ms × List Bp) (t : Tn) : Ms × List Bp := match (stepT a b p t).2 with
  | some q => if q ∈ keysOf s.1 then s else (s.1 ++ [(q, (lookA s.1 p).getD [] ++ [t])], s.2 ++ [q])
  | none => s
/-- how many there are at the most -/
def allSt (r : Rl) : List St := (List.range r.meets.length).map St.free ++ ((List.range (r.asks + 1)).flatMap fun n => (List.range r.meets.length).map (St.ask n)) ++ ((List.range (max r.tells 1 + 1)).flatMap fun o => (List.range r.stands.length).map (St.hold o))
theorem mem_allSt {r : Rl} {s : St} (h : okS r s) : s ∈ allSt r := by
  unfold allSt
  cases s with
  | free g => simp only [List.mem_append, List.mem_map, List.mem_range]; exact .inl (.inl ⟨g, h, rfl⟩)
  | ask n g => simp only [List.mem_append, List.mem_flatMap, List.mem_map, List.mem_range]; exact .inl (.inr ⟨n, by have := h.1; omega, g, h.2, rfl⟩)
  | hold o s => simp only [List.mem_append, List.mem_flatMap, List.mem_map, List.mem_range]; exact .inr ⟨o, by have := h.1; omega, s, h.2, rfl⟩
theorem sum_const {α : Type} (f : α → Nat) (c : Nat) : ∀ l : List α, (∀ a ∈ l, f a = c) → (l.map f).sum = l.length * c
  | [], _ => by simp
  | a :: l, h => by
    simp only [List.map_cons, List.sum_cons, List.length_cons, h a (by simp), sum_const f c l fun b hb => h b (by simp [hb]), Nat.succ_mul]
    omega
theorem len_allSt {r : Rl} (h : okR r) : (allSt r).length ≤ 21 := by
  unfold allSt
  simp only [List.length_append, List.length_map, List.length_range, List.length_flatMap]
  rw [sum_const (fun _ => r.meets.length) r.meets.length _ (fun _ _ => rfl), sum_const (fun _ => r.stands.length) r.stands.length _ (fun _ _ => rfl)]
  simp only [List.length_range]
  have h1 := h.m3
  have h2 := h.s3
  have h3 := h.a9
  have h4 := h.t3
  have e1 : (r.asks + 1) * r.meets.length ≤ 3 * 3 := Nat.mul_le_mul (by omega) h1
  have e2 : (max r.tells 1 + 1) * r.stands.length ≤ 3 * 3 := Nat.mul_le_mul (by omega) h2
  omega
def allB (a b : Rl) : List Bp := (allSt a).flatMap fun s => (allSt b).map fun t => ⟨s, t⟩
theorem len_allB {a b : Rl} (ha : okR a) (hb : okR b) : (allB a b).length ≤ 441 := by
  unfold allB
  rw [List.length_flatMap, sum_const _ (allSt b).length _ (fun _ _ => by simp)]
  exact Nat.mul_le_mul (len_allSt ha) (len_allSt hb)
theorem ri_len {a b : Rl} {m : Ms} (ha : okR a) (hb : okR b) (h : RI a b m) : m.length ≤ 441 := by
  have := nodup_le _ (allB a b) h.nd fun p hp => by
    obtain ⟨h1, h2⟩ := h.ok p hp
    simp only [allB, List.mem_flatMap, List.mem_map]
    exact ⟨p.x, mem_allSt h1, p.y, mem_allSt h2, rfl⟩
  have e : (keysOf m).length = m.length := by simp [keysOf]
  have := len_allB ha hb
  omega
theorem lt_line {n : Nat} (h : n ≤ 100000) : n < sizeLine := by rw [sizeLine_eq]; omega
def rhoR (a b : Rl) (s : Ms × List Bp) (s5 s6 s7 : Option Slot) : Rho :=
  [some (false, a.row), some (false, b.row), some (false, bD start), some (true, msD s.1), some (true, .lst (s.2.map bD)), s5, s6, s7]
theorem rb1_ok (a b : Rl) (s : Ms × List Bp) (p : Bp) (t : Tn) (hp : okB a b p) (ts : List Tn) (hts : lookA s.1 p = some ts) (h1 : s.1.length ≤ 10000) (h2 : s.2.length ≤ 10000) (h3 : ts.length ≤ 10000) {s7 : Option Slot} :
    ∃ t7, law_reach_b1 (rhoR a b s (some (false, bD p)) (some (false, t.d)) s7) = .nx (rhoR a b (addT a b p s t) (some (false, bD p)) (some (false, t.d)) t7) := by
  have z : ∀ n : Nat, n ≤ 100 → n ≤ sizeLine := fun n h => le2 h
  have q := lparted_ok a b p t hp.1 hp.2
  cases e3 : (stepT a b p t).2 with
  | none =>
    rw [e3] at q
    simp only [obD] at q
    exact ⟨some (false, .non), by simp [law_reach_b1, rhoR, bindS, sp4, Src.ev, q, addT, e3]⟩
  | some v =>
    rw [e3] at q
    simp only [obD] at q
    have q4 : opNinK (bD v) (msD s.1) = .ok (.bl (!decide (v ∈ keysOf s.1))) := ninK_cod cod_bp v s.1
    have q5 : opIxK (msD s.1) (bD p) = .ok (tsD ts) := ixK_cod cod_bp hts
    refine ⟨some (false, bD v), ?_⟩
    by_cases hm : v ∈ keysOf s.1
    · simp [hm] at q4
      simp [law_reach_b1, rhoR, bindS, sp4, Src.ev, q, q4, addT, e3, hm, bD_non]
    · simp [hm] at q4
      have hadd : opAdd (tsD ts) (.lst [t.d]) = .ok (tsD (ts ++ [t])) := by
        have : ts.length + 1 ≤ sizeLine := by have := lt_line (n := 100000) (by omega); omega
        simp [tsD, opAdd, this]
      have es := setK_new (c := bD) (e := tsD) cod_bp (a := v) (b := ts ++ [t]) (m := s.1) (i := 3) (fi := rdV 7) (f := bin2 opAdd (bin2 opIxK (rdP 3) (rdP 5)) (mkL (consL (rdV 6) nilL)))
        (ρ := rhoR a b s (some (false, bD p)) (some (false, t.d)) (some (false, bD v))) rfl (by simp [rhoR, q5, hadd, z]) rfl hm (lt_line (by omega))
      have e4 : law_reach_b1 (rhoR a b s (some (false, bD p)) (some (false, t.d)) s7) = seqO (seqO (setKF 3 (rdV 7) (bin2 opAdd (bin2 opIxK (rdP 3) (rdP 5)) (mkL (consL (rdV 6) nilL))) (rhoR a b s (some (false, bD p)) (some (false, t.d)) (some (false, bD v)))) (seqF (appF 4 (rdV 7)) nxF)) nxF := by
        simp [law_reach_b1, rhoR, bindS, sp4, Src.ev, q, q4, bD_non]
      rw [e4, es]
      have hl : s.2.length < sizeLine := lt_line (by omega)
      simp [rhoR, addT, e3, hm, msD, appF, hl, hts]
/-- a turn keeps what is known -/
structure RS (a b : Rl) (p : Bp) (ts : List Tn) (m0 : Nat) (w0 : Nat) (s : Ms × List Bp) : Prop where
  ri : RI a b s.1
  lk : lookA s.1 p = some ts
  wk : ∀ q ∈ s.2, q ∈ keysOf s.1
  sz : s.1.length + w0 = m0 + s.2.length
theorem add_ok {a b : Rl} (ha : okR a) (hb : okR b) {p : Bp} {ts : List Tn} {m0 w0 : Nat} {s : Ms × List Bp} (h : RS a b p ts m0 w0 s) (t : Tn) : RS a b p ts m0 w0 (addT a b p s t) := by
  have hpk : p ∈ keysOf s.1 := by
    have := look_some (m := s.1) (a := p)
    rw [h.lk] at this
    exact of_decide_eq_true this.symm
  have htl : ts.length < s.1.length := by
    obtain ⟨b', e1, e2⟩ := look_mem hpk
    rw [h.lk] at e1; cases e1
    exact h.ri.len _ e2
  unfold addT
  split
  · rename_i q e
    split
    · exact h
    · rename_i hq
      have hk : keysOf (s.1 ++ [(q, (lookA s.1 p).getD [] ++ [t])]) = keysOf s.1 ++ [q] := by simp [keysOf]
      refine ⟨⟨?_, ?_, ?_, ?_⟩, ?_, ?_, ?_⟩
      · rw [hk, List.nodup_append]
        refine ⟨h.ri.nd, by simp, fun x hx y hy => ?_⟩
        simp at hy; subst hy
        exact fun z => hq (z ▸ hx)
      · intro x hx
        rw [hk] at hx
        rcases List.mem_append.mp hx with z | z
        · exact h.ri.ok x z
        · simp at z; subst z
          exact step_okB (h.ri.ok p hpk) ha hb e
      · intro x hx
        simp only [List.mem_append, List.mem_singleton] at hx
        simp only [List.length_append, List.length_singleton]
        rcases hx with z | z
        · have := h.ri.len x z; omega
        · subst z
          simp [h.lk]; omega
      · rw [hk]; simp [h.ri.st]
      · show lookA (s.1 ++ _) p = _
        rw [look_keep hpk]; exact h.lk
      · intro x hx
        show x ∈ keysOf (s.1 ++ _)
        rw [hk]
        rcases List.mem_append.mp hx with z | z
        · simp [h.wk x z]
        · simp at z; subst z; simp
      · have := h.sz
        simp only [List.length_append, List.length_singleton]; omega
  · exact h
theorem rb_loop (a b : Rl) (ha : okR a) (hb : okR b) (p : Bp) (ts : List Tn) (m0 w0 : Nat) (hm : w0 ≤ m0) : ∀ (l : List Tn) (s : Ms × List Bp) (s6 s7 : Option Slot), RS a b p ts m0 w0 s →
    ∃ s' t6 t7, forGo (Tg.bind (.n 6)) law_reach_b1 (l.map Tn.d) (rhoR a b s (some (false, bD p)) s6 s7) = .nx (rhoR a b s' (some (false, bD p)) t6 t7) ∧ RS a b p ts m0 w0 s'
  | [], s, s6, s7, h => ⟨s, s6, s7, rfl, h⟩
  | t :: l, s, s6, s7, h => by
    have hpk : p ∈ keysOf s.1 := by
      have := look_some (m := s.1) (a := p)
      rw [h.lk] at this
      exact of_decide_eq_true this.symm
    have l1 := ri_len ha hb h.ri
    have htl : ts.length < s.1.length := by
      obtain ⟨b', e1, e2⟩ := look_mem hpk
      rw [h.lk] at e1; cases e1
      exact h.ri.len _ e2
    have l2 : s.2.length ≤ 10000 := by have := h.sz; omega
    obtain ⟨t7, e⟩ := rb1_ok a b s p t (h.ri.ok p hpk) ts h.lk (by omega) l2 (by omega) (s7 := s7)
    obtain ⟨s', u6, u7, e2, h2⟩ := rb_loop a b ha hb p ts m0 w0 hm l (addT a b p s t) (some (false, t.d)) t7 (add_ok ha hb h t)
    refine ⟨s', u6, u7, ?_, h2⟩
    have e4 : Tg.bind (.n 6) t.d (rhoR a b s (some (false, bD p)) s6 s7) = some (rhoR a b s (some (false, bD p)) (some (false, t.d)) s7) := by simp [rhoR]
    simp only [List.map_cons, s_forC, e4, e, s_lnx]
    exact e2
theorem skw : ∀ x ∈ ([("free" : Str), "ask", "hold"]), PyData.strOk x = true := by decide +kernel
theorem cm_st (s : St) {k : Nat} : Cm (k + 1) s.d := by
  cases s
  · exact cm_tup (cms_cons (cm_str (skw _ (by simp))) (cms_cons cm_int cms_nil))
  · exact cm_tup (cms_cons (cm_str (skw _ (by simp))) (cms_cons cm_int (cms_cons cm_int cms_nil)))
  · exact cm_tup (cms_cons (cm_str (skw _ (by simp))) (cms_cons cm_int (cms_cons cm_int cms_nil)))
theorem cm_bD (p : Bp) {k : Nat} : Cm (k + 2) (bD p) := cm_tup (cms_cons (cm_st _) (cms_cons (cm_st _) cms_nil))
theorem neW (l : List Bp) (hl : l ≠ []) : opNe (.lst (l.map bD)) (.lst []) = .ok (.bl true) := by
  cases l with
  | nil => exact (hl rfl).elim
  | cons p l => exact cm_neNil (d := bD p) (ds := l.map bD) (cm_lst (k := 19) (cms_all (ds := (p :: l).map bD) fun d hd => by
      obtain ⟨q, _, rfl⟩ := List.mem_map.mp hd
      exact cm_bD q))
theorem rwh_ok (a b : Rl) (ha : okR a) (hb : okR b) : ∀ (n : Nat) (s : Ms × List Bp) (s5 s6 s7 : Option Slot), RI a b s.1 → (∀ q ∈ s.2, q ∈ keysOf s.1) → s.2.length ≤ s.1.length → s.2.length + 441 + 1 ≤ n + s.1.length →
    ∃ m' t5 t6 t7, whGo law_reach_b3 law_reach_b2 n (rhoR a b s s5 s6 s7) = .nx (rhoR a b (m', []) t5 t6 t7) ∧ RI a b m'
  | 0, s, s5, s6, s7, h, hw, hl, hn => by have := ri_len ha hb h; omega
  | n + 1, (m, w), s5, s6, s7, h, hw, hl, hn => by
    have l1 := ri_len ha hb h
    cases w with
    | nil =>
      refine ⟨m, s5, s6, s7, ?_, h⟩
      simp [whGo, law_reach_b3, rhoR, neNil0]
    | cons p w =>
      have hc : law_reach_b3 (rhoR a b (m, p :: w) s5 s6 s7) = .ok true := by
        have := neW (p :: w) (by simp)
        simp only [List.map_cons] at this
        simp [law_reach_b3, rhoR, this]
      have hpk : p ∈ keysOf m := hw p (by simp)
      obtain ⟨ts, e1, e2⟩ := look_mem hpk
      obtain ⟨s', t6, t7, e3, h3⟩ := rb_loop a b ha hb p ts m.length w.length (by simp at hl; omega) turnsL (m, w) s6 s7 ⟨h, e1, fun q hq => hw q (by simp [hq]), rfl⟩
      have hsz := h3.sz
      simp only [List.length_cons] at hl hn
      obtain ⟨m', u5, u6, u7, e4, h4⟩ := rwh_ok a b ha hb n s' (some (false, bD p)) t6 t7 h3.ri h3.wk (by omega) (by omega)
      refine ⟨m', u5, u6, u7, ?_, h4⟩
      have e5 : law_reach_b2 (rhoR a b (m, p :: w) s5 s6 s7) = .nx (rhoR a b s' (some (false, bD p)) t6 t7) := by
        have e6 : popAtF 5 4 (constF (.int 0)) (rhoR a b (m, p :: w) s5 s6 s7) = .nx (rhoR a b (m, w) (some (false, bD p)) s6 s7) := by
          have hz : seqIndex? 0 (w.length + 1) = some 0 := by simp [seqIndex?]
          simp [popAtF, rhoR, smallI, hz]
        simp [law_reach_b2, e6, lturns_ok, bindS, sp0, e3]
      simp only [whGo, hc, s_ofTok, if_true, e5, s_lnx]
      exact e4
theorem reach_ok (a b : Rl) (ha : okR a) (hb : okR b) : ∃ m, M_law_reach [a.row, b.row] = .ok (msD m) ∧ RI a b m := by
  have z : ∀ n : Nat, n ≤ 100 → n ≤ sizeLine := fun n h => le2 h
  have i0 : RI a b [(start, [])] := ⟨by simp [keysOf], fun p hp => by simp [keysOf] at hp; subst hp; exact ⟨ha.m0, hb.m0⟩, fun x hx => by simp at hx; subst hx; simp, by simp [keysOf]⟩
  obtain ⟨m, t5, t6, t7, e, h⟩ := rwh_ok a b ha hb 100000 ([(start, [])], [start]) none none none i0 (fun q hq => by simpa [keysOf] using hq) (by simp) (by simp)
  refine ⟨m, ?_, h⟩
  have e1 : biDictP [.lst [.tup [bD start, .lst []]]] = .ok (msD [(start, [])]) := by
    have := dictP_cod (c := bD) (e := tsD) cod_bp [(start, [])] (z 1 (by omega))
    simpa [tsD, puts, put1, keysOf, msD] using this
  have e2 : M_law_reach [a.row, b.row] = outR (seqO (whGo law_reach_b3 law_reach_b2 100000 (rhoR a b ([(start, [])], [start]) none none none)) (seqF (retF (rdP 3)) nxF)) := by
    simp only [M_law_reach, law_reach_eq]
    simp [startR, List.replicate, z, start_d, e1, rhoR, ownO, own_ms]
    rfl
  rw [e2, e]
  simp [rhoR]
end K35
set_option Elab.async false
set_option linter.all false
set_option maxRecDepth 100000
set_option maxHeartbeats 4000000
namespace K35
open PySem L2 BV
theorem whole_ok (n lo hi : Int) : M_is_whole [.int n, .int lo, .int hi] = .ok (.bl (decide (lo ≤ n) && decide (n ≤ hi))) := by
  simp [M_is_whole, F_is_whole, startR, isiF, topIn, isi1, tyN]
  by_cases h : lo ≤ n <;> simp [h]
theorem isi_bool (x : Bool) : isiF subT clsT [.b "bool"] (.bl x) = .ok (.bl true) := by simp [isiF, topIn, isi1, tyN]
theorem words_ok (l : List Wd) (h0 : 0 < l.length) (h3 : l.length ≤ 3) : M_are_words [wds l] = .ok (.bl true) := by
  match l, h0, h3 with
  | [a], _, _ => cases a <;> kernel_rfl
  | [a, b], _, _ => cases a <;> cases b <;> kernel_rfl
  | [a, b, c], _, _ => cases a <;> cases b <;> cases c <;> kernel_rfl
theorem made_ok (r : Rl) (hr : okR r) : M_law_made [r.row] = .ok r.d := by
  have z : ∀ n : Nat, n ≤ 100 → n ≤ sizeLine := fun n h => nat_lit_le (by omega)
  have wa : (r.asks : Int) ≤ 9 := by have := hr.a9; omega
  have wt : (r.tells : Int) ≤ 3 := by have := hr.t3; omega
  have w1 := words_ok r.meets hr.m0 hr.m3
  have w2 := words_ok r.stands hr.s0 hr.s3
  have wp : M_wrong_part [r.row] = .ok .non := by
    simp [M_wrong_part, F_wrong_part, startR, Rl.row, bindS, srcP, List.range, List.range.loop, Src.ev, c_MOST_ASKS, c_MOST_TELLS, whole_ok, wa, wt, w1, w2, isi_bool, z, c_PARTS, zipD]
  have wp' := wp
  simp only [Rl.row] at wp'
  simp [M_law_made, F_law_made, startR, Rl.d, Rl.row, shp_Rule_init_all, bindS, srcP, srcK, List.range, List.range.loop, Src.ev, MI_Rule_init, F_Rule_init, startI, z, wp', setfF, outI]
/-! ### draws -/
theorem take_ok (ns : List Int) (m : Nat) (hm : 0 < m) : Holds (M_law_take [.drw ns, .int m]) (fun d => ∃ k : Nat, k < m ∧ d = .int k) := by
  have e : M_law_take = runF 2 (F_tk M_law_number) := rfl
  have e2 : M_law_number = runF 8 F_num := rfl
  rw [e]
  exact tk_ok (fun ns i => by rw [e2]; exact num_any ns i) ns m hm
theorem pick_ok (ns : List Int) (l : List D) (hl : l ≠ []) : Holds (M_law_pick [.drw ns, .lst l]) (fun d => d ∈ l) := by
  have e : M_law_pick = runF 2 (F_pk M_law_take) := rfl
  rw [e]
  exact pk_ok take_ok ns l hl
def wordsL : List (List Wd) := [[.yield], [.lesser], [.stay], [.yield, .stay], [.lesser, .yield], [.yield, .lesser, .stay], [.yield, .yield], [.stay, .yield], [.lesser, .lesser]]
theorem wordsL_len : ∀ l ∈ wordsL, 0 < l.length ∧ l.length ≤ 3 := by decide
theorem lwords_ok (ns : List Int) : Holds (M_law_words [.drw ns]) (fun d => ∃ l : List Wd, (0 < l.length ∧ l.length ≤ 3) ∧ d = wds l) := by
  have z : ∀ n : Nat, n ≤ 100 → n ≤ sizeLine := fun n h => nat_lit_le (by omega)
  have e : M_law_words [.drw ns] = M_law_pick [.drw ns, .lst (wordsL.map wds)] := by
    simp [M_law_words, F_law_words, startR, z, bindS, sp2, Src.ev, wordsL, wds, Wd.s, opAdd]
  rw [e]
  refine (pick_ok ns _ (by simp [wordsL])).mono fun d hd => ?_
  obtain ⟨l, hl, rfl⟩ := List.mem_map.mp hd
  exact ⟨l, wordsL_len l hl, rfl⟩
theorem lparts_ok (ns : List Int) : Holds (M_law_parts [.drw ns]) (fun d => ∃ r : Rl, okR r ∧ d = r.row) := by
  have z : ∀ n : Nat, n ≤ 100 → n ≤ sizeLine := fun n h => nat_lit_le (by omega)
  have e : M_law_parts [.drw ns] = outR (F_law_parts [some (false, .drw ns), none, none]) := rfl
  rw [e, F_law_parts]
  refine h_par2 ?_
  refine holds_eq ((pick_ok ns [.int 1, .int 1, .int 0, .int 2] (by simp)).mono fun d1 h1 => ?_) (by simp [z, bindS, sp2, Src.ev])
  refine holds_eq ((pick_ok ns [.int 1, .int 0, .int 1, .int 2] (by simp)).mono fun d2 h2 => ?_) (by simp [z, bindS, sp2, Src.ev])
  obtain ⟨a, ha, rfl⟩ : ∃ a : Nat, a ≤ 2 ∧ d1 = .int a := by
    simp at h1; rcases h1 with rfl | rfl | rfl
    · exact ⟨1, by omega, rfl⟩
    · exact ⟨0, by omega, rfl⟩
    · exact ⟨2, by omega, rfl⟩
  obtain ⟨t, ht, rfl⟩ : ∃ a : Nat, a ≤ 2 ∧ d2 = .int a := by
    simp at h2; rcases h2 with rfl | rfl | rfl | rfl
    · exact ⟨1, by omega, rfl⟩
    · exact ⟨0, by omega, rfl⟩
    · exact ⟨1, by omega, rfl⟩
    · exact ⟨2, by omega, rfl⟩
  refine h_ret ?_
  simp only [s_mkT, s_cons, List.set_cons_succ, List.set_cons_zero, s_rdVs, s_rdV0, s_own0, s_bok, s_callF, s_nil, List.length_cons, List.length_nil, if_true, and_self, bindS, sp1, sp2, List.map_cons, List.map_nil, Src.ev, List.getD_cons_zero, List.getD_cons_succ, s_bin, s_const, holds_bind]
  refine (lwords_ok ns).mono fun w1 ⟨l1, hl1, e1⟩ => (lwords_ok ns).mono fun w2 ⟨l2, hl2, e2⟩ => (take_ok ns 4 (by omega)).mono fun k1 ⟨x1, hx1, e3⟩ => ?_
  subst e1 e2 e3
  simp only [s_cmp, holds_okI, s_bok, holds_bind]
  refine (take_ok ns 3 (by omega)).mono fun k2 ⟨x2, hx2, e4⟩ => ?_
  subst e4
  simp only [s_cmp, holds_okI, s_bok, s_nil, List.length_cons, List.length_nil, z 6 (by omega), if_true]
  exact ⟨⟨a, t, l1, l2, decide ((0 : Int) < x1), decide ((0 : Int) < x2)⟩, ⟨hl1.1, hl2.1, hl1.2, hl2.2, ha, ht⟩, rfl⟩
end K35
set_option Elab.async false
set_option linter.all false
set_option maxRecDepth 100000
set_option maxHeartbeats 4000000
namespace K35
open PySem L2 BV
def law_lists_right_b1 : Rho → Out := (seqF (ifF (tst (bin2 opNe (methF (fun _ => M_Alike_shows) ma_Alike_shows (mkG 2 shp_Alike_init_none MI_Alike_init (consL (rdV 10) nilL) nilL) (consL (rdV 4) (consL (rdV 5) nilL)) nilL) (callF 3 0 (srcP 3) M_law_is_alike (consL (rdV 1) (consL (rdV 2) (consL (rdV 10) nilL))) nilL))) (seqF (retF (constF (.bl false))) nxF) nxF) nxF)
theorem law_lists_right_eq : F_law_lists_right = (seqF (par3 4 5 6 false false false (callF 1 0 (srcP 1) M_law_made (consL (rdV 1) nilL) nilL) (callF 1 0 (srcP 1) M_law_made (consL (rdV 2) nilL) nilL) (appL biListK (consL (rdP 3) nilL))) (seqF (par2 7 8 false false (callF 2 0 (srcP 2) M_law_take (consL (rdV 0) (consL (appL (Bi.ev .len) (consL (rdP 6) nilL)) nilL)) nilL) (callF 2 0 (srcP 2) M_law_pick (consL (rdV 0) (consL (rdV 6) nilL)) nilL)) (seqF (letF 9 (mkT (consL (bin2 opIx (callF 2 0 (srcP 2) M_law_pick (consL (rdV 0) (consL (rdV 6) nilL)) nilL) (constF (.int 0))) (consL (bin2 opIx (rdP 8) (constF (.int 1))) nilL)))) (seqF (forF (.n 10) (itSeq (mkT (consL (rdV 6) (consL (bin2 opAdd (bndF opRev (rdP 6)) (slF (rdP 6) noneF (someF (constF (.int 1))))) (consL (bin2 opAdd (slF (rdP 6) noneF (someF (rdV 7))) (slF (rdP 6) (someF (bin2 opAdd (rdP 7) (constF (.int 1)))) noneF)) (consL (slF (rdP 6) (someF (constF (.int 1))) noneF) (consL (mkL nilL) (consL (bin2 opAdd (rdP 6) (mkL (consL (rdV 9) nilL))) nilL)))))))) law_lists_right_b1) (seqF (retF (constF (.bl true))) nxF))))) := rfl
def law_rows_right_b1 : Rho → Out := (seqF (ifF (tst (bin2 opNe (methF (fun _ => M_Parted_shows) ma_Parted_shows (mkG 3 shp_Parted_init_none MI_Parted_init (consL (rdV 11) nilL) nilL) (consL (rdV 4) (consL (rdV 5) nilL)) nilL) (callF 3 0 (srcP 3) M_law_is_parting (consL (rdV 1) (consL (rdV 2) (consL (rdV 11) nilL))) nilL))) (seqF (retF (constF (.bl false))) nxF) nxF) nxF)
def law_rows_right_b2 : Rho → Out := (seqF (letF 8 (bin2 opIxK (rdP 3) (callF 2 0 (srcP 2) M_law_pick (consL (rdV 0) (consL (rdV 6) nilL)) nilL))) (seqF (par2 9 10 false false (callF 2 0 (srcP 2) M_law_take (consL (rdV 0) (consL (bin2 opAdd (appL (Bi.ev .len) (consL (rdP 8) nilL)) (constF (.int 1))) nilL)) nilL) (callF 2 0 (srcP 2) M_law_pick (consL (rdV 0) (consL (callF 0 0 (srcP 0) M_law_turns nilL nilL) nilL)) nilL)) (seqF (forF (.n 11) (itSeq (mkT (consL (rdV 8) (consL (bin2 opAdd (rdP 8) (mkL (consL (rdV 10) nilL))) (consL (bin2 opAdd (slF (rdP 8) noneF (someF (rdV 9))) (slF (rdP 8) (someF (bin2 opAdd (rdP 9) (constF (.int 1)))) noneF)) (consL (bin2 opAdd (bin2 opAdd (slF (rdP 8) noneF (someF (rdV 9))) (mkL (consL (rdV 10) nilL))) (slF (rdP 8) (someF (rdV 9)) noneF)) (consL (bndF opRev (rdP 8)) nilL))))))) law_rows_right_b1) nxF)))
def law_rows_right_b3 : Rho → Out := (seqF (letF 8 (bin2 opAdd (bin2 opIxK (rdP 3) (callF 2 0 (srcP 2) M_law_pick (consL (rdV 0) (consL (rdV 6) nilL)) nilL)) (mkL (consL (rdV 10) nilL)))) (seqF (ifF (tst (bin2 opNe (methF (fun _ => M_Parted_shows) ma_Parted_shows (mkG 3 shp_Parted_init_none MI_Parted_init (consL (rdV 8) nilL) nilL) (consL (rdV 4) (consL (rdV 5) nilL)) nilL) (callF 3 0 (srcP 3) M_law_is_parting (consL (rdV 1) (consL (rdV 2) (consL (rdV 8) nilL))) nilL))) (seqF (retF (constF (.bl false))) nxF) nxF) nxF))
theorem law_rows_right_eq : F_law_rows_right = (seqF (par3 4 5 6 false false false (callF 1 0 (srcP 1) M_law_made (consL (rdV 1) nilL) nilL) (callF 1 0 (srcP 1) M_law_made (consL (rdV 2) nilL) nilL) (appL biListK (consL (rdP 3) nilL))) (seqF (forF (.n 7) (itRng1 (consL (constF (.int 8)) nilL)) law_rows_right_b2) (seqF (forF (.n 10) (itSeq (callF 0 0 (srcP 0) M_law_turns nilL nilL)) law_rows_right_b3) (seqF (retF (notV (methF (fun _ => M_Parted_shows) ma_Parted_shows (mkG 3 shp_Parted_init_none MI_Parted_init (consL (mkL nilL) nilL) nilL) (consL (rdV 4) (consL (rdV 5) nilL)) nilL))) nxF)))) := rfl
def law_b1 : Rho → Out := (seqF (letF 3 (callF 1 0 (srcP 1) M_law_parts (consL (rdV 1) nilL) nilL)) (seqF (letF 4 (callF 2 0 (srcP 2) M_law_take (consL (rdV 1) (consL (constF (.int 9)) nilL)) nilL)) (seqF (letF 5 (iteV (tst (bin2 (opCmp fun i j => decide (j < i)) (rdP 4) (constF (.int 5)))) (rdV 3) (bin2 opAdd (bin2 opAdd (slF (rdP 3) noneF (someF (rdV 4))) (mkT (consL (bin2 opIx (callF 1 0 (srcP 1) M_law_parts (consL (rdV 1) nilL) nilL) (rdP 4)) nilL))) (slF (rdP 3) (someF (bin2 opAdd (rdP 4) (constF (.int 1)))) noneF)))) (seqF (letF 6 (callF 2 0 (srcP 2) M_law_reach (consL (rdV 3) (consL (rdV 5) nilL)) nilL)) (seqF (ifF (orB (notB (tst (callF 4 0 (srcP 4) M_law_lists_right (consL (rdV 1) (consL (rdV 3) (consL (rdV 5) (consL (rdV 6) nilL)))) nilL))) (notB (tst (callF 4 0 (srcP 4) M_law_rows_right (consL (rdV 1) (consL (rdV 3) (consL (rdV 5) (consL (rdV 6) nilL)))) nilL)))) (seqF (retF (constF (.bl false))) nxF) nxF) (seqF (ifF (notB (tst (callF 1 0 (srcP 1) M_law_equal_right (consL (rdV 6) nilL) nilL))) (seqF (retF (constF (.bl false))) nxF) nxF) nxF))))))
theorem law_eq : F_law = (seqF (letF 1 (bndF drwN (rdV 0))) (seqF (forF (.n 2) (itRng1 (consL (constF (.int 3)) nilL)) law_b1) (seqF (retF (constF (.bl true))) nxF))) := rfl


theorem mi_alike (l : List D) : MI_Alike_init [.lst l] = .ok [.lst l] := by
  simp [MI_Alike_init, F_Alike_init, startI, startR, Bi.ev, biList, setfF, outI]
theorem mi_parted (l : List D) : MI_Parted_init [.lst l] = .ok [.lst l] := by
  simp [MI_Parted_init, F_Parted_init, startI, startR, Bi.ev, biList, setfF, outI]
theorem cut_map {α β : Type} (f : α → β) (l : List α) (lo hi : Option Int) : cutA (l.map f) lo hi = (cutA l lo hi).map f := by
  unfold cutA
  simp only [List.length_map, List.map_take, List.map_drop]
theorem mem_cut {α : Type} {l : List α} {lo hi : Option Int} {x : α} (h : x ∈ cutA l lo hi) : x ∈ l := List.mem_of_mem_drop (List.mem_of_mem_take h)
theorem len_cut {α : Type} (l : List α) (lo hi : Option Int) : (cutA l lo hi).length ≤ l.length := by
  unfold cutA
  rw [List.length_take, List.length_drop]; omega
theorem sl_map {α : Type} (f : α → D) (l : List α) (lo hi : Option Int) : opSl (.lst (l.map f)) lo hi = .ok (.lst ((cutA l lo hi).map f)) := by simp [cut_map]
theorem rev_map {α : Type} (f : α → D) (l : List α) : opRev (.lst (l.map f)) = .ok (.lst (l.reverse.map f)) := by simp [opRev]
theorem add_map {α : Type} (f : α → D) (l k : List α) (h : l.length + k.length ≤ 100000) : opAdd (.lst (l.map f)) (.lst (k.map f)) = .ok (.lst ((l ++ k).map f)) := by
  have : l.length + k.length ≤ sizeLine := by have := lt_line (n := 100000) (by omega); omega
  simp [opAdd, this]
def enB (ps : List Bp) : D := .lst (ps.map bD)
theorem llb1_ok (a b : Rl) (ps : List Bp) (h : ∀ p ∈ ps, okB a b p) (hl : ps.length ≤ 100000) {s0 s3 s6 s7 s8 s9 : Option Slot} :
    law_lists_right_b1 [s0, some (false, a.row), some (false, b.row), s3, some (false, a.d), some (false, b.d), s6, s7, s8, s9, some (false, enB ps)] = .nx [s0, some (false, a.row), some (false, b.row), s3, some (false, a.d), some (false, b.d), s6, s7, s8, s9, some (false, enB ps)] := by
  have hl' : ps.length ≤ sizeLine := by have := lt_line (n := 100000) (by omega); omega
  have q1 := shows_ok a b ps h hl'
  have q2 := lalike_ok a b ps h hl'
  simp [law_lists_right_b1, shp_Alike_init_none, bindS, srcP, List.range, List.range.loop, Src.ev, enB, mi_alike, recv, ma_Alike_shows, List.lookup, q1, q2]
theorem enB_len (ps : List Bp) : Bi.ev .len [enB ps] = .ok (.int ps.length) := by simp [enB]
theorem lists_ok (ns : List Int) (a b : Rl) (ha : okR a) (hb : okR b) (m : Ms) (hm : RI a b m) : Holds (M_law_lists_right [.drw ns, a.row, b.row, msD m]) (· = .bl true) := by
  have z : ∀ n : Nat, n ≤ 100 → n ≤ sizeLine := fun n h => nat_lit_le (by omega)
  have e : M_law_lists_right [.drw ns, a.row, b.row, msD m] = outR (F_law_lists_right [some (false, .drw ns), some (false, a.row), some (false, b.row), some (false, msD m), none, none, none, none, none, none, none]) := rfl
  have hle := ri_len ha hb hm
  obtain ⟨ev, hev⟩ : ∃ ev, ev = keysOf m := ⟨_, rfl⟩
  have hevl : ev.length = m.length := by rw [hev]; simp [keysOf]
  have hev0 : ev ≠ [] := fun z => by have := hm.st; rw [← hev, z] at this; simp at this
  have hok : ∀ p ∈ ev, okB a b p := by rw [hev]; exact hm.ok
  have hlist : biListK [msD m] = .ok (enB ev) := by rw [hev]; exact listK_cod
  rw [e, law_lists_right_eq]
  refine h_par3 ?_
  refine holds_ok (a := a.d) (by simp [bindS, sp1, Src.ev, made_ok a ha]) ?_
  refine holds_ok (a := b.d) (by simp [bindS, sp1, Src.ev, made_ok b hb]) ?_
  refine holds_ok (a := enB ev) (by simp [hlist]) ?_
  simp only [List.set_cons_succ, List.set_cons_zero, s_own0]
  refine h_par2 ?_
  refine holds_eq ((take_ok ns ev.length (List.length_pos_iff.mpr hev0)).mono fun d1 ⟨at_, hat, e1⟩ => ?_) (by simp [bindS, sp2, Src.ev, enB_len])
  subst e1
  refine holds_eq ((pick_ok ns (ev.map bD) (by simpa using hev0)).mono fun d2 h2 => ?_) (by simp [bindS, sp2, Src.ev, enB])
  obtain ⟨both, hbo, rfl⟩ := List.mem_map.mp h2
  simp only [List.set_cons_succ, List.set_cons_zero, s_own0]
  refine h_let ?_
  have et : ∀ (r : Rho) (d : R D), True := fun _ _ => trivial
  simp only [s_mkT, s_cons, s_bin, s_callF, s_rdV0, s_rdVs, s_rdPs, s_rdP0, s_bok, s_nil, s_const, List.length_cons, List.length_nil, if_true, and_self, bindS, sp2, List.map_cons, List.map_nil, Src.ev, List.getD_cons_zero, List.getD_cons_succ, holds_bind]
  refine (pick_ok ns (ev.map bD) (by simpa using hev0)).mono fun d3 h3 => ?_
  obtain ⟨oth, hot, rfl⟩ := List.mem_map.mp h3
  obtain ⟨odd, hodd⟩ : ∃ odd : Bp, odd = ⟨oth.x, both.y⟩ := ⟨_, rfl⟩
  have hoddk : okB a b odd := by rw [hodd]; exact ⟨(hok _ hot).1, (hok _ hbo).2⟩
  have eodd : D.tup [oth.x.d, both.y.d] = bD odd := by rw [hodd]; rfl
  have o1 : opIx (bD oth) (.int 0) = .ok oth.x.d := by simp [bD]
  have o2 : opIx (bD both) (.int 1) = .ok both.y.d := by simp [bD]
  simp only [o1, o2, holds_okI, s_bok, List.length_cons, List.length_nil, z 2 (by omega), if_true, eodd, List.set_cons_succ, List.set_cons_zero]
  obtain ⟨L6, hL6⟩ : ∃ L6 : List (List Bp), L6 = [ev, ev.reverse ++ cutA ev none (some 1), cutA ev none (some (at_ : Int)) ++ cutA ev (some ((at_ : Int) + 1)) none, cutA ev (some 1) none, [], ev ++ [odd]] := ⟨_, rfl⟩
  have hL6ok : ∀ ps ∈ L6, (∀ p ∈ ps, okB a b p) ∧ ps.length ≤ 100000 := by
    rw [hL6]
    intro ps hps
    have c1 := len_cut ev none (some 1)
    have c2 := len_cut ev none (some (at_ : Int))
    have c3 := len_cut ev (some ((at_ : Int) + 1)) none
    have c4 := len_cut ev (some 1) none
    simp only [List.mem_cons, List.not_mem_nil, or_false] at hps
    rcases hps with rfl | rfl | rfl | rfl | rfl | rfl
    · exact ⟨hok, by omega⟩
    · refine ⟨fun p hp => ?_, by simp; omega⟩
      rcases List.mem_append.mp hp with h | h
      · exact hok p (by simpa using h)
      · exact hok p (mem_cut h)
    · refine ⟨fun p hp => ?_, by simp; omega⟩
      rcases List.mem_append.mp hp with h | h
      · exact hok p (mem_cut h)
      · exact hok p (mem_cut h)
    · exact ⟨fun p hp => hok p (mem_cut hp), by omega⟩
    · exact ⟨fun p hp => by simp at hp, by simp⟩
    · refine ⟨fun p hp => ?_, by simp; omega⟩
      rcases List.mem_append.mp hp with h | h
      · exact hok p h
      · simp at h; subst h; exact hoddk
  have s1 := sl_map bD ev none (some 1)
  have s2 := sl_map bD ev none (some (at_ : Int))
  have s3 := sl_map bD ev (some ((at_ : Int) + 1)) none
  have s4 := sl_map bD ev (some 1) none
  have s5 := rev_map bD ev
  have c1 := len_cut ev none (some 1)
  have c2 := len_cut ev none (some (at_ : Int))
  have c3 := len_cut ev (some ((at_ : Int) + 1)) none
  have a1 := add_map bD ev.reverse (cutA ev none (some 1)) (by simp; omega)
  have a2 := add_map bD (cutA ev none (some (at_ : Int))) (cutA ev (some ((at_ : Int) + 1)) none) (by omega)
  have a3 := add_map bD ev [odd] (by simp; omega)
  refine h_for (ds := L6.map enB) ?_ ?_
  · rw [hL6]
    simp only [List.map_reverse, List.map_append, List.map_cons, List.map_nil] at a1 a2 a3 s5
    simp [enB, someF, s1, s2, s3, s4, s5, a1, a2, a3, z]
  · refine (for_holds (enc := enB) (Inv := fun ρ => ∃ s10, ρ = [some (false, .drw ns), some (false, a.row), some (false, b.row), some (false, msD m), some (false, a.d), some (false, b.d), some (false, enB ev), some (false, .int at_), some (false, bD both), some (false, bD odd), s10]) (fun ps hps ρ ⟨s10, eρ⟩ => ?_) _ ⟨none, rfl⟩).mono fun o ⟨ρ', eo, s10, eρ⟩ => ?_
    · subst eρ
      refine ⟨_, rfl, ?_⟩
      simp only [List.set_cons_succ, List.set_cons_zero]
      rw [llb1_ok a b ps (hL6ok ps hps).1 (hL6ok ps hps).2]
      simp only [holdsO_nx]
      exact ⟨_, rfl, _, rfl⟩
    · subst eo eρ
      simp
end K35
set_option Elab.async false
set_option linter.all false
set_option maxRecDepth 100000
set_option maxHeartbeats 4000000
namespace K35
open PySem L2 BV
theorem rrb1_ok (a b : Rl) (ha : okR a) (hb : okR b) (ts : List Tn) {s0 s3 s6 s7 s8 s9 s10 : Option Slot} :
    law_rows_right_b1 [s0, some (false, a.row), some (false, b.row), s3, some (false, a.d), some (false, b.d), s6, s7, s8, s9, s10, some (false, tsD ts)] = .nx [s0, some (false, a.row), some (false, b.row), s3, some (false, a.d), some (false, b.d), s6, s7, s8, s9, s10, some (false, tsD ts)] := by
  have q1 := pshows_ok a b ha hb ts
  have q2 := lparting_ok a b ha hb ts
  simp [law_rows_right_b1, shp_Parted_init_none, bindS, srcP, List.range, List.range.loop, Src.ev, tsD, mi_parted, recv, ma_Parted_shows, List.lookup, q1, q2]
theorem tsD_len (ts : List Tn) : Bi.ev .len [tsD ts] = .ok (.int ts.length) := by simp [tsD]
theorem turnsL_ne : turnsL.map Tn.d ≠ [] := by simp [turnsL]
def rhoL (ns : List Int) (a b : Rl) (m : Ms) (ev : List Bp) (s7 s8 s9 s10 s11 : Option Slot) : Rho :=
  [some (false, .drw ns), some (false, a.row), some (false, b.row), some (false, msD m), some (false, a.d), some (false, b.d), some (false, enB ev), s7, s8, s9, s10, s11]
theorem rrb2_ok (ns : List Int) (a b : Rl) (ha : okR a) (hb : okR b) (m : Ms) (hm : RI a b m) {s7 s8 s9 s10 s11 : Option Slot} :
    HoldsO (law_rows_right_b2 (rhoL ns a b m (keysOf m) s7 s8 s9 s10 s11)) fun o => ∃ ρ2, o = .nx ρ2 ∧ ∃ t8 t9 t10 t11, ρ2 = rhoL ns a b m (keysOf m) s7 t8 t9 t10 t11 := by
  have z : ∀ n : Nat, n ≤ 100 → n ≤ sizeLine := fun n h => nat_lit_le (by omega)
  have hle := ri_len ha hb hm
  have hev0 : keysOf m ≠ [] := fun z => by have := hm.st; rw [z] at this; simp at this
  unfold law_rows_right_b2
  refine o_let ?_
  simp only [rhoL, s_bin, s_callF, s_cons, s_rdV0, s_rdVs, s_rdPs, s_rdP0, s_bok, s_nil, List.length_cons, List.length_nil, if_true, and_self, bindS, sp2, List.map_cons, List.map_nil, Src.ev, List.getD_cons_zero, List.getD_cons_succ, holds_bind, enB]
  refine (pick_ok ns ((keysOf m).map bD) (by simpa using hev0)).mono fun d1 h1 => ?_
  obtain ⟨p, hp, rfl⟩ := List.mem_map.mp h1
  obtain ⟨ts, e1, e2⟩ := look_mem hp
  have e3 : opIxK (msD m) (bD p) = .ok (tsD ts) := ixK_cod cod_bp e1
  have htl := hm.len _ e2
  rw [e3]
  simp only [holds_okI, List.set_cons_succ, List.set_cons_zero]
  refine o_par2 ?_
  refine holds_eq ((take_ok ns (ts.length + 1) (by omega)).mono fun d2 ⟨at_, hat, e4⟩ => ?_) (by simp [bindS, sp2, Src.ev, tsD_len])
  subst e4
  refine holds_eq ((pick_ok ns (turnsL.map Tn.d) turnsL_ne).mono fun d3 h3 => ?_) (by simp [bindS, sp2, sp0, Src.ev, lturns_ok])
  obtain ⟨t, ht, rfl⟩ := List.mem_map.mp h3
  simp only [List.set_cons_succ, List.set_cons_zero, s_own0]
  obtain ⟨L5, hL5⟩ : ∃ L5 : List (List Tn), L5 = [ts, ts ++ [t], cutA ts none (some (at_ : Int)) ++ cutA ts (some ((at_ : Int) + 1)) none, cutA ts none (some (at_ : Int)) ++ [t] ++ cutA ts (some (at_ : Int)) none, ts.reverse] := ⟨_, rfl⟩
  have s2 := sl_map Tn.d ts none (some (at_ : Int))
  have s3 := sl_map Tn.d ts (some ((at_ : Int) + 1)) none
  have s4 := sl_map Tn.d ts (some (at_ : Int)) none
  have s5 := rev_map Tn.d ts
  have c2 := len_cut ts none (some (at_ : Int))
  have c3 := len_cut ts (some ((at_ : Int) + 1)) none
  have c4 := len_cut ts (some (at_ : Int)) none
  have htl : ts.length < m.length := htl
  have a1 := add_map Tn.d ts [t] (by simp; omega)
  have a2 := add_map Tn.d (cutA ts none (some (at_ : Int))) (cutA ts (some ((at_ : Int) + 1)) none) (by omega)
  have a3 := add_map Tn.d (cutA ts none (some (at_ : Int))) [t] (by simp; omega)
  have a4 := add_map Tn.d (cutA ts none (some (at_ : Int)) ++ [t]) (cutA ts (some (at_ : Int)) none) (by simp; omega)
  refine o_for (ds := L5.map tsD) ?_ ?_
  · rw [hL5]
    simp only [List.map_reverse, List.map_append, List.map_cons, List.map_nil] at a1 a2 a3 a4 s5
    simp only [tsD, List.map_cons, List.map_nil, List.map_append, List.map_reverse]
    simp [someF, s2, s3, s4, s5, a1, a2, a3, a4, z]
  · refine (for_holds (enc := tsD) (Inv := fun ρ => ∃ s11, ρ = rhoL ns a b m (keysOf m) s7 (some (false, tsD ts)) (some (false, .int at_)) (some (false, t.d)) s11) (fun us hus ρ ⟨s11, eρ⟩ => ?_) _ ⟨s11, rfl⟩).mono fun o ⟨ρ', eo, s11, eρ⟩ => ?_
    · subst eρ
      refine ⟨_, rfl, ?_⟩
      simp only [rhoL, List.set_cons_succ, List.set_cons_zero]
      rw [rrb1_ok a b ha hb us]
      simp only [holdsO_nx]
      exact ⟨_, rfl, _, rfl⟩
    · subst eo eρ
      simp only [s_snx, s_nx, holdsO_nx]
      exact ⟨_, rfl, _, _, _, _, rfl⟩
theorem rrb3_ok (ns : List Int) (a b : Rl) (ha : okR a) (hb : okR b) (m : Ms) (hm : RI a b m) (t : Tn) {s7 s8 s9 s11 : Option Slot} :
    HoldsO (law_rows_right_b3 (rhoL ns a b m (keysOf m) s7 s8 s9 (some (false, t.d)) s11)) fun o => ∃ ρ2, o = .nx ρ2 ∧ ∃ t8, ρ2 = rhoL ns a b m (keysOf m) s7 t8 s9 (some (false, t.d)) s11 := by
  have z : ∀ n : Nat, n ≤ 100 → n ≤ sizeLine := fun n h => nat_lit_le (by omega)
  have hle := ri_len ha hb hm
  have hev0 : keysOf m ≠ [] := fun z => by have := hm.st; rw [z] at this; simp at this
  unfold law_rows_right_b3
  refine o_let ?_
  simp only [rhoL, s_bin, s_callF, s_cons, s_rdV0, s_rdVs, s_rdPs, s_rdP0, s_bok, s_nil, List.length_cons, List.length_nil, if_true, and_self, bindS, sp2, List.map_cons, List.map_nil, Src.ev, List.getD_cons_zero, List.getD_cons_succ, holds_bind, enB]
  refine (pick_ok ns ((keysOf m).map bD) (by simpa using hev0)).mono fun d1 h1 => ?_
  obtain ⟨p, hp, rfl⟩ := List.mem_map.mp h1
  obtain ⟨ts, e1, e2⟩ := look_mem hp
  have e3 : opIxK (msD m) (bD p) = .ok (tsD ts) := ixK_cod cod_bp e1
  have htl : ts.length < m.length := hm.len _ e2
  have a1 := add_map Tn.d ts [t] (by simp; omega)
  have a1' : opAdd (tsD ts) (.lst [t.d]) = .ok (tsD (ts ++ [t])) := by simpa [tsD] using a1
  rw [e3]
  simp only [holds_okI, List.set_cons_succ, List.set_cons_zero, s_mkL, s_cons, s_rdV0, s_rdVs, s_bok, s_nil, List.length_cons, List.length_nil, z 1 (by omega), if_true, a1']
  have q1 := pshows_ok a b ha hb (ts ++ [t])
  have q2 := lparting_ok a b ha hb (ts ++ [t])
  refine o_if (holds_ok (a := false) ?_ ?_)
  · rw [tsD]
    simp [-List.map_append, shp_Parted_init_none, bindS, srcP, List.range, List.range.loop, Src.ev, mi_parted, recv, ma_Parted_shows, List.lookup, q1, q2]
  · simp only [Bool.false_eq_true, if_false, s_nx, s_snx, holdsO_nx]
    exact ⟨_, rfl, _, rfl⟩
theorem rows_ok (ns : List Int) (a b : Rl) (ha : okR a) (hb : okR b) (m : Ms) (hm : RI a b m) : Holds (M_law_rows_right [.drw ns, a.row, b.row, msD m]) (· = .bl true) := by
  have z : ∀ n : Nat, n ≤ 100 → n ≤ sizeLine := fun n h => nat_lit_le (by omega)
  have e : M_law_rows_right [.drw ns, a.row, b.row, msD m] = outR (F_law_rows_right [some (false, .drw ns), some (false, a.row), some (false, b.row), some (false, msD m), none, none, none, none, none, none, none, none]) := rfl
  have hlist : biListK [msD m] = .ok (enB (keysOf m)) := listK_cod
  rw [e, law_rows_right_eq]
  refine h_par3 ?_
  refine holds_ok (a := a.d) (by simp [bindS, sp1, Src.ev, made_ok a ha]) ?_
  refine holds_ok (a := b.d) (by simp [bindS, sp1, Src.ev, made_ok b hb]) ?_
  refine holds_ok (a := enB (keysOf m)) (by simp [hlist]) ?_
  simp only [List.set_cons_succ, List.set_cons_zero, s_own0]
  refine h_for (ds := (List.range 8).map fun k => D.int (k : Nat)) (by kernel_rfl) ?_
  refine (for_holds (enc := fun k : Nat => D.int k) (Inv := fun ρ => ∃ s7 s8 s9 s10 s11, ρ = rhoL ns a b m (keysOf m) s7 s8 s9 s10 s11) (fun k hk ρ ⟨s7, s8, s9, s10, s11, eρ⟩ => ?_) _ ⟨none, none, none, none, none, rfl⟩).mono fun o ⟨ρ', eo, s7, s8, s9, s10, s11, eρ⟩ => ?_
  · subst eρ
    refine ⟨rhoL ns a b m (keysOf m) (some (false, .int k)) s8 s9 s10 s11, rfl, ?_⟩
    exact (rrb2_ok ns a b ha hb m hm).mono fun o ⟨ρ2, h1, t8, t9, t10, t11, h2⟩ => ⟨ρ2, h1, _, _, _, _, _, h2⟩
  subst eo eρ
  simp only [s_snx]
  refine h_for (ds := turnsL.map Tn.d) (by simp [rhoL, bindS, sp0, lturns_ok]) ?_
  refine (for_holds (enc := Tn.d) (Inv := fun ρ => ∃ s8 s10, ρ = rhoL ns a b m (keysOf m) s7 s8 s9 s10 s11) (fun t ht ρ ⟨s8, s10, eρ⟩ => ?_) _ ⟨s8, s10, rfl⟩).mono fun o ⟨ρ', eo, s8, s10, eρ⟩ => ?_
  · subst eρ
    refine ⟨rhoL ns a b m (keysOf m) s7 s8 s9 (some (false, t.d)) s11, rfl, ?_⟩
    exact (rrb3_ok ns a b ha hb m hm t).mono fun o ⟨ρ2, h1, t8, h2⟩ => ⟨ρ2, h1, _, _, h2⟩
  subst eo eρ
  simp only [s_snx]
  refine h_ret (holds_ok (a := .bl true) ?_ rfl)
  have q1 := pshows_ok a b ha hb []
  have : partT a b [] = false := rfl
  rw [this] at q1
  simp only [List.map_nil] at q1
  simp [rhoL, shp_Parted_init_none, bindS, srcP, List.range, List.range.loop, Src.ev, mi_parted, recv, ma_Parted_shows, List.lookup, q1, z]
end K35
set_option Elab.async false
set_option linter.all false
set_option maxRecDepth 100000
set_option maxHeartbeats 4000000
namespace K35
open PySem L2 BV
theorem cm_eqNil {d : D} {ds : List D} (h : Cm 20 (.lst (d :: ds))) : opEq (.lst (d :: ds)) (.lst []) = .ok (.bl false) := by
  obtain ⟨p, h1, h2, h3⟩ := h
  simp only [D.toP, Option.map_eq_some_iff] at h1
  obtain ⟨ps, e1, rfl⟩ := h1
  have e2 : ∃ q qs, ps = q :: qs := by
    simp only [D.toPs] at e1
    split at e1
    · simp at e1; exact ⟨_, _, e1.symm⟩
    · cases e1
  obtain ⟨q, qs, rfl⟩ := e2
  have hs : SeqAt.shaped (.list []) = true := by decide +kernel
  have e3 : (D.lst (d :: ds)).toP = some (.list (q :: qs)) := by simp only [D.toP, e1, Option.map_some]
  have e4 : (D.lst []).toP = some (.list []) := by simp [D.toP, D.toPs]
  simp [opEq, e3, e4, cm_shaped h2 h3, hs, PyData.eqv, PyData.eqvAll]
theorem cm_enB (ps : List Bp) : Cm 20 (enB ps) := cm_lst (k := 19) (cms_all fun d hd => by
  obtain ⟨q, _, rfl⟩ := List.mem_map.mp hd
  exact cm_bD q)
theorem legsB (ps : List Bp) : evA flds MA_legs ("legs" : Str) al_legs (.ins 2 [enB ps]) = .ok (enB ps) := legs_at _
def rowP : List D := [.tup [.str ("pick" : Str), .non]]
theorem isi2 (l : List D) : isiF subT clsT [.c 2] (.ins 2 l) = .ok (.bl true) := by simp [isiF, topIn, clsT, isi1, subT]
theorem isi23 (l : List D) : isiF subT clsT [.c 2] (.ins 3 l) = .ok (.bl false) := by simp [isiF, topIn, clsT, isi1, subT]
theorem aeq (ps : List Bp) : M_Alike_eq [.ins 2 [enB ps], .ins 2 [enB ps]] = .ok (.bl true) := by
  simp [M_Alike_eq, F_Alike_eq, startR, isi2, legsB, cm_eq (cm_enB ps)]
theorem aeq0 (ps : List Bp) (h : ps ≠ []) : M_Alike_eq [.ins 2 [enB ps], .ins 2 [.lst []]] = .ok (.bl false) := by
  cases ps with
  | nil => exact (h rfl).elim
  | cons p ps =>
    have := cm_eqNil (d := bD p) (ds := ps.map bD) (cm_enB (p :: ps))
    have l2 := legs_at []
    have l1 := legs_at ((p :: ps).map bD)
    simp only [List.map_cons] at l1
    simp [M_Alike_eq, F_Alike_eq, startR, isi2, enB, l1, l2, this]
theorem aeqJ (l k : List D) : M_Alike_eq [.ins 2 l, .ins 3 k] = .ok (.bl false) := by
  simp [M_Alike_eq, F_Alike_eq, startR, isi23]
theorem peq : M_Parted_eq [.ins 3 [.lst rowP], .ins 3 [.lst rowP]] = .ok (.bl true) := by kernel_rfl
theorem peq0 : M_Parted_eq [.ins 3 [.lst rowP], .ins 3 [.lst []]] = .ok (.bl false) := by kernel_rfl
theorem pne : opNe (.lst rowP) (.lst rowP) = .ok (.bl false) := by kernel_rfl
theorem equal_ok (a b : Rl) (m : Ms) (hm : RI a b m) : M_law_equal_right [msD m] = .ok (.bl true) := by
  have z : ∀ n : Nat, n ≤ 100 → n ≤ sizeLine := fun n h => nat_lit_le (by omega)
  obtain ⟨ev, hev⟩ : ∃ ev, ev = cutA (keysOf m) none (some 3) := ⟨_, rfl⟩
  have hne : ev ≠ [] := by
    rw [hev]
    have h0 : 0 < (keysOf m).length := List.length_pos_of_mem hm.st
    have e3 : cutA (keysOf m) none (some 3) = (keysOf m).take 3 := by
      unfold cutA
      show ((keysOf m).drop 0).take (min (3 : Int).toNat (keysOf m).length - 0) = _
      rw [List.drop_zero, Nat.sub_zero, List.take_eq_take_iff]
      show min (min 3 (keysOf m).length) (keysOf m).length = _
      omega
    rw [e3]
    intro hz
    have := congrArg List.length hz
    rw [List.length_take, List.length_nil] at this
    omega
  have hlist : biListK [msD m] = .ok (.lst ((keysOf m).map bD)) := listK_cod
  have hsl : opSl (.lst ((keysOf m).map bD)) none (some 3) = .ok (enB ev) := by rw [sl_map, ← hev]; rfl
  have l1 := legsB ev
  have t1 : evA flds MA_turns ("turns" : Str) al_turns (.ins 3 [.lst rowP]) = .ok (.lst rowP) := turns_at _
  have q1 := cm_ne (cm_enB ev)
  have q2 := aeq ev
  have q3 := aeq0 ev hne
  have hl : Bi.ev .list [enB ev] = .ok (enB ev) := rfl
  have e1 : par2 1 2 true true (slF (appL biListK (consL (rdP 0) nilL)) noneF (someF (constF (.int 3)))) (mkL (consL (mkT (consL (constF (.str ("pick" : Str))) (consL (constF .non) nilL))) nilL)) [some (false, msD m), none, none, none, none, none] = .nx [some (false, msD m), some (true, enB ev), some (true, .lst rowP), none, none, none] := by
    simp [hlist, someF, z]
    refine ⟨⟨rfl, ?_⟩, rfl, rfl⟩
    rw [cut_map, ← hev]; rfl
  have e0 : M_law_equal_right [msD m] = outR (F_law_equal_right [some (false, msD m), none, none, none, none, none]) := rfl
  rw [e0, F_law_equal_right, s_seq, e1, s_snx]
  have c1 : copyF 2 1 [some (false, msD m), some (true, enB ev), some (true, .lst rowP), none, none, none] = .ok (.ins 2 [enB ev]) := rfl
  have c2 : copyF 3 2 [some (false, msD m), some (true, enB ev), some (true, .lst rowP), none, none, none] = .ok (.ins 3 [.lst rowP]) := rfl
  rw [s_seq, s_par, c1, s_ofRok, c2, s_ofRok, s_snx]
  simp only [List.set_cons_succ, List.set_cons_zero, s_own0]
  have c3 : rdP 1 [some (false, msD m), some (true, enB ev), some (true, .lst rowP), some (false, .ins 2 [enB ev]), some (false, .ins 3 [.lst rowP]), none] = .ok (enB ev) := rfl
  rw [s_seq, s_let, s_app, s_cons, c3, s_bok, s_nil, s_bok, s_bok, hl, s_ofRok, s_snx]
  simp only [List.set_cons_succ, List.set_cons_zero]
  have c4 : clrF 1 [some (false, msD m), some (true, enB ev), some (true, .lst rowP), some (false, .ins 2 [enB ev]), some (false, .ins 3 [.lst rowP]), some (false, enB ev)] = .nx [some (false, msD m), some (true, .lst []), some (true, .lst rowP), some (false, .ins 2 [enB ev]), some (false, .ins 3 [.lst rowP]), some (false, enB ev)] := rfl
  rw [s_seq, c4, s_snx]
  have c5 : clrF 2 [some (false, msD m), some (true, .lst []), some (true, .lst rowP), some (false, .ins 2 [enB ev]), some (false, .ins 3 [.lst rowP]), some (false, enB ev)] = .nx [some (false, msD m), some (true, .lst []), some (true, .lst []), some (false, .ins 2 [enB ev]), some (false, .ins 3 [.lst rowP]), some (false, enB ev)] := rfl
  rw [s_seq, c5, s_snx]
  have m1 : MI_Alike_init [enB ev] = .ok [enB ev] := mi_alike _
  have hrow : D.lst [.tup [.str ("pick" : Str), .non]] = .lst rowP := rfl
  simp [shp_Parted_init_none, shp_Alike_init_none, bindS, srcP, List.range, List.range.loop, Src.ev, mi_parted, mi_alike, m1, l1, t1, q1, pne, q2, q3, peq, peq0, opEqI, clsIs, blOf, opNeJ, aeqJ, z, hrow]
end K35
set_option Elab.async false
set_option linter.all false
set_option maxRecDepth 100000
set_option maxHeartbeats 4000000
namespace K35
open PySem L2 BV
/-- a part of another rule in its place -/
theorem mix_ok (r q : Rl) (hr : okR r) (hq : okR q) (k : Nat) (hk : k ≤ 5) : ∃ r' : Rl, okR r' ∧ ∃ d, opIx q.row (.int k) = .ok d ∧
    opSl r.row none (some (k : Int)) = .ok (.tup (cutA [D.int r.asks, .int r.tells, wds r.meets, wds r.stands, .bl r.ans, .bl r.again] none (some (k : Int)))) ∧
    opSl r.row (some ((k : Int) + 1)) none = .ok (.tup (cutA [D.int r.asks, .int r.tells, wds r.meets, wds r.stands, .bl r.ans, .bl r.again] (some ((k : Int) + 1)) none)) ∧
    r'.row = .tup (cutA [D.int r.asks, .int r.tells, wds r.meets, wds r.stands, .bl r.ans, .bl r.again] none (some (k : Int)) ++ [d] ++ cutA [D.int r.asks, .int r.tells, wds r.meets, wds r.stands, .bl r.ans, .bl r.again] (some ((k : Int) + 1)) none) := by
  have hk : k = 0 ∨ k = 1 ∨ k = 2 ∨ k = 3 ∨ k = 4 ∨ k = 5 := by omega
  rcases hk with rfl | rfl | rfl | rfl | rfl | rfl
  · exact ⟨{ r with asks := q.asks }, ⟨hr.m0, hr.s0, hr.m3, hr.s3, hq.a9, hr.t3⟩, .int q.asks, by simp [Rl.row], rfl, rfl, rfl⟩
  · exact ⟨{ r with tells := q.tells }, ⟨hr.m0, hr.s0, hr.m3, hr.s3, hr.a9, hq.t3⟩, .int q.tells, by simp [Rl.row], rfl, rfl, rfl⟩
  · exact ⟨{ r with meets := q.meets }, ⟨hq.m0, hr.s0, hq.m3, hr.s3, hr.a9, hr.t3⟩, wds q.meets, by simp [Rl.row], rfl, rfl, rfl⟩
  · exact ⟨{ r with stands := q.stands }, ⟨hr.m0, hq.s0, hr.m3, hq.s3, hr.a9, hr.t3⟩, wds q.stands, by simp [Rl.row], rfl, rfl, rfl⟩
  · exact ⟨{ r with ans := q.ans }, ⟨hr.m0, hr.s0, hr.m3, hr.s3, hr.a9, hr.t3⟩, .bl q.ans, by simp [Rl.row], rfl, rfl, rfl⟩
  · exact ⟨{ r with again := q.again }, ⟨hr.m0, hr.s0, hr.m3, hr.s3, hr.a9, hr.t3⟩, .bl q.again, by simp [Rl.row], rfl, rfl, rfl⟩
theorem cut6 (l : List D) (lo hi : Option Int) (h : l.length = 6) : (cutA l lo hi).length ≤ 6 := by have := len_cut l lo hi; omega
theorem lb_ok (ns : List Int) {s0 s2 s3 s4 s5 s6 : Option Slot} : HoldsO (law_b1 [s0, some (false, .drw ns), s2, s3, s4, s5, s6]) fun o => ∃ ρ2, o = .nx ρ2 ∧ ∃ t3 t4 t5 t6, ρ2 = [s0, some (false, .drw ns), s2, t3, t4, t5, t6] := by
  have z : ∀ n : Nat, n ≤ 100 → n ≤ sizeLine := fun n h => nat_lit_le (by omega)
  unfold law_b1
  refine o_let (holds_eq ((lparts_ok ns).mono fun d1 ⟨r, hr, e1⟩ => ?_) (by simp [bindS, sp1, Src.ev]))
  subst e1
  simp only [List.set_cons_succ, List.set_cons_zero]
  refine o_let (holds_eq ((take_ok ns 9 (by omega)).mono fun d2 ⟨k, hk, e2⟩ => ?_) (by simp [bindS, sp2, Src.ev]))
  subst e2
  simp only [List.set_cons_succ, List.set_cons_zero]
  refine o_let ?_
  have key : Holds (iteV (tst (bin2 (opCmp fun i j => decide (j < i)) (rdP 4) (constF (.int 5)))) (rdV 3) (bin2 opAdd (bin2 opAdd (slF (rdP 3) noneF (someF (rdV 4))) (mkT (consL (bin2 opIx (callF 1 0 (srcP 1) M_law_parts (consL (rdV 1) nilL) nilL) (rdP 4)) nilL))) (slF (rdP 3) (someF (bin2 opAdd (rdP 4) (constF (.int 1)))) noneF))
      [s0, some (false, .drw ns), s2, some (false, r.row), some (false, .int k), s5, s6]) fun d => ∃ r' : Rl, okR r' ∧ d = r'.row := by
    by_cases h5 : (5 : Int) < k
    · exact holds_ok (a := r.row) (by simp [h5]) ⟨r, hr, rfl⟩
    · simp only [s_iteV, s_tst, s_bin, s_rdPs, s_rdP0, s_const, s_bok, s_cmp, s_truth, h5, decide_false, Bool.false_eq_true, if_false]
      simp only [s_sl, s_mkT, s_cons, s_callF, s_rdV0, s_rdVs, s_rdPs, s_rdP0, s_bok, s_nil, s_noneF, List.length_cons, List.length_nil, if_true, and_self, bindS, sp1, List.map_cons, List.map_nil, Src.ev, List.getD_cons_zero, holds_bind, someF, s_bin, s_const, s_add]
      have k5 : k ≤ 5 := by omega
      have e1 : opSl r.row none (some (k : Int)) = .ok (.tup (cutA [D.int r.asks, .int r.tells, wds r.meets, wds r.stands, .bl r.ans, .bl r.again] none (some (k : Int)))) := rfl
      rw [e1]
      simp only [holds_okI]
      refine (lparts_ok ns).mono fun d3 ⟨q, hq, e3⟩ => ?_
      subst e3
      obtain ⟨r', hr', d, q1, q2, q3, q4⟩ := mix_ok r q hr hq k k5
      rw [q1]
      simp only [holds_okI, s_bok, List.length_cons, List.length_nil, z 1 (by omega), if_true]
      have c1 := cut6 [D.int r.asks, .int r.tells, wds r.meets, wds r.stands, .bl r.ans, .bl r.again] none (some (k : Int)) rfl
      have c2 := cut6 [D.int r.asks, .int r.tells, wds r.meets, wds r.stands, .bl r.ans, .bl r.again] (some ((k : Int) + 1)) none rfl
      rw [s_addT (by simp only [List.length_cons, List.length_nil]; exact z _ (by omega))]
      simp only [holds_okI]
      rw [q3]
      simp only [holds_okI]
      rw [s_addT (by simp only [List.length_append, List.length_cons, List.length_nil]; exact z _ (by omega))]
      simp only [holds_okI]
      exact ⟨r', hr', q4.symm⟩
  refine key.mono fun d3 ⟨r', hr', e3⟩ => ?_
  subst e3
  simp only [List.set_cons_succ, List.set_cons_zero]
  obtain ⟨m, em, hm⟩ := reach_ok r r' hr hr'
  refine o_let (holds_ok (a := msD m) (by simp [bindS, sp2, Src.ev, em]) ?_)
  simp only [List.set_cons_succ, List.set_cons_zero]
  have hl := lists_ok ns r r' hr hr' m hm
  have hw := rows_ok ns r r' hr hr' m hm
  have he := equal_ok r r' m hm
  refine o_if ?_
  simp only [s_orB, s_notB, s_tst, s_callF, s_cons, s_rdV0, s_rdVs, s_bok, s_nil, List.length_cons, List.length_nil, if_true, and_self, bindS, sp4, List.map_cons, List.map_nil, Src.ev, List.getD_cons_zero, List.getD_cons_succ, holds_bind]
  refine hl.mono fun d4 e4 => ?_
  subst e4
  simp only [s_truth, holds_okI, Bool.not_true, Bool.false_eq_true, if_false, holds_bind]
  refine hw.mono fun d5 e5 => ?_
  subst e5
  simp only [s_truth, holds_okI, Bool.not_true, Bool.false_eq_true, if_false, s_nx, s_snx]
  refine o_if (holds_ok (a := false) (by simp [bindS, sp1, Src.ev, he]) ?_)
  simp only [Bool.false_eq_true, if_false, s_nx, s_snx, holdsO_nx]
  exact ⟨_, rfl, _, _, _, _, rfl⟩
theorem pure_law (ns : List Int) (h : ns.length ≤ 63) : LawOk (M_law [.scr ns]) := by
  refine ⟨?_⟩
  have e : M_law [.scr ns] = outR (F_law [some (false, .scr ns), none, none, none, none, none, none]) := rfl
  rw [e, law_eq]
  refine h_let (holds_ok (a := .drw ns) rfl ?_)
  simp only [List.set_cons_succ, List.set_cons_zero]
  refine h_for (ds := (List.range 3).map fun k => D.int (k : Nat)) (by kernel_rfl) ?_
  refine (for_holds (enc := fun k : Nat => D.int k) (Inv := fun ρ => ∃ s2 s3 s4 s5 s6, ρ = [some (false, .scr ns), some (false, .drw ns), s2, s3, s4, s5, s6]) (fun k hk ρ ⟨s2, s3, s4, s5, s6, eρ⟩ => ?_) _ ⟨none, none, none, none, none, rfl⟩).mono fun o ⟨ρ', eo, s2, s3, s4, s5, s6, eρ⟩ => ?_
  · subst eρ
    refine ⟨[some (false, .scr ns), some (false, .drw ns), some (false, .int k), s3, s4, s5, s6], rfl, ?_⟩
    exact (lb_ok ns).mono fun o ⟨ρ2, h1, t3, t4, t5, t6, h2⟩ => ⟨ρ2, h1, _, _, _, _, _, h2⟩
  subst eo eρ
  simp only [s_snx]
  exact h_ret (holds_ok (a := .bl true) rfl rfl)
end K35
set_option Elab.async false
set_option linter.all false
set_option maxRecDepth 100000
set_option maxHeartbeats 4000000
namespace K35
open PySem L2 PySem.Spec PyProof.Rows BV
/-- the message of an own exception -/
def msgOf (s : Stmt) : Expr := match defBody s with
  | .Expr (.Call _ [m] _ _) _ :: _ => m
  | _ => .Name "" ⟨0, 0, 0, 0⟩
structure HD (T : Tb) (Φ : Nat → Fn) (ka sI : Nat → Addr) : Prop where
  hfl : T.flds = flds
  m_all : T.mg ("all" : Str) = none
  m_bool : T.mg ("bool" : Str) = none
  m_dict : T.mg ("dict" : Str) = none
  m_enumerate : T.mg ("enumerate" : Str) = none
  m_int : T.mg ("int" : Str) = none
  m_isinstance : T.mg ("isinstance" : Str) = none
  m_len : T.mg ("len" : Str) = none
  m_list : T.mg ("list" : Str) = none
  m_max : T.mg ("max" : Str) = none
  m_min : T.mg ("min" : Str) = none
  m_range : T.mg ("range" : Str) = none
  m_str : T.mg ("str" : Str) = none
  m_sum : T.mg ("sum" : Str) = none
  m_tuple : T.mg ("tuple" : Str) = none
  m_zip : T.mg ("zip" : Str) = none
  d_law_number : FunD T.K ("_law_number" : Str) ("_law_number" : Str) (defArgs s_law_number) (defBody s_law_number) (defScope s_law_number) [] [] (Φ 0).addr (Φ 0).fd
  p_law_number : (Φ 0).ps = [("_law_script" : Str), ("_law_index" : Str)]
  g_law_number : T.mg ("_law_number" : Str) = some (.ref (Φ 0).addr)
  d_law_take : FunD T.K ("_law_take" : Str) ("_law_take" : Str) (defArgs s_law_take) (defBody s_law_take) (defScope s_law_take) [] [] (Φ 1).addr (Φ 1).fd
  p_law_take : (Φ 1).ps = [("_law_draw" : Str), ("_law_many" : Str)]
  g_law_take : T.mg ("_law_take" : Str) = some (.ref (Φ 1).addr)
  d_law_pick : FunD T.K ("_law_pick" : Str) ("_law_pick" : Str) (defArgs s_law_pick) (defBody s_law_pick) (defScope s_law_pick) [] [] (Φ 2).addr (Φ 2).fd
  p_law_pick : (Φ 2).ps = [("_law_draw" : Str), ("_law_things" : Str)]
  g_law_pick : T.mg ("_law_pick" : Str) = some (.ref (Φ 2).addr)
  d_law_words : FunD T.K ("_law_words" : Str) ("_law_words" : Str) (defArgs s_law_words) (defBody s_law_words) (defScope s_law_words) [] [] (Φ 3).addr (Φ 3).fd
  p_law_words : (Φ 3).ps = [("_law_draw" : Str)]
  g_law_words : T.mg ("_law_words" : Str) = some (.ref (Φ 3).addr)
  d_law_parts : FunD T.K ("_law_parts" : Str) ("_law_parts" : Str) (defArgs s_law_parts) (defBody s_law_parts) (defScope s_law_parts) [] [] (Φ 4).addr (Φ 4).fd
  p_law_parts : (Φ 4).ps = [("_law_draw" : Str)]
  g_law_parts : T.mg ("_law_parts" : Str) = some (.ref (Φ 4).addr)
  d_law_turns : FunD T.K ("_law_turns" : Str) ("_law_turns" : Str) (defArgs s_law_turns) (defBody s_law_turns) (defScope s_law_turns) [] [] (Φ 5).addr (Φ 5).fd
  p_law_turns : (Φ 5).ps = []
  g_law_turns : T.mg ("_law_turns" : Str) = some (.ref (Φ 5).addr)
  d_law_own : FunD T.K ("_law_own" : Str) ("_law_own" : Str) (defArgs s_law_own) (defBody s_law_own) (defScope s_law_own) [] [] (Φ 6).addr (Φ 6).fd
  p_law_own : (Φ 6).ps = [("_law_parts_here" : Str), ("_law_state" : Str), ("_law_word" : Str)]
  g_law_own : T.mg ("_law_own" : Str) = some (.ref (Φ 6).addr)
  d_law_heard : FunD T.K ("_law_heard" : Str) ("_law_heard" : Str) (defArgs s_law_heard) (defBody s_law_heard) (defScope s_law_heard) [] [] (Φ 7).addr (Φ 7).fd
  p_law_heard : (Φ 7).ps = [("_law_parts_here" : Str), ("_law_state" : Str), ("_law_letter" : Str), ("_law_is_less" : Str)]
  g_law_heard : T.mg ("_law_heard" : Str) = some (.ref (Φ 7).addr)
  d_law_turn : FunD T.K ("_law_turn" : Str) ("_law_turn" : Str) (defArgs s_law_turn) (defBody s_law_turn) (defScope s_law_turn) [] [] (Φ 8).addr (Φ 8).fd
  p_law_turn : (Φ 8).ps = [("_law_parts_here" : Str), ("_law_state" : Str), ("_law_turn_here" : Str)]
  g_law_turn : T.mg ("_law_turn" : Str) = some (.ref (Φ 8).addr)
  d_law_parted : FunD T.K ("_law_parted" : Str) ("_law_parted" : Str) (defArgs s_law_parted) (defBody s_law_parted) (defScope s_law_parted) [] [] (Φ 9).addr (Φ 9).fd
  p_law_parted : (Φ 9).ps = [("_law_one" : Str), ("_law_other" : Str), ("_law_both" : Str), ("_law_turn_here" : Str)]
  g_law_parted : T.mg ("_law_parted" : Str) = some (.ref (Φ 9).addr)
  d_law_reach : FunD T.K ("_law_reach" : Str) ("_law_reach" : Str) (defArgs s_law_reach) (defBody s_law_reach) (defScope s_law_reach) [] [] (Φ 10).addr (Φ 10).fd
  p_law_reach : (Φ 10).ps = [("_law_one" : Str), ("_law_other" : Str)]
  g_law_reach : T.mg ("_law_reach" : Str) = some (.ref (Φ 10).addr)
  d_are_words : FunD T.K ("are_words" : Str) ("are_words" : Str) (defArgs s_are_words) (defBody s_are_words) (defScope s_are_words) [] [] (Φ 11).addr (Φ 11).fd
  p_are_words : (Φ 11).ps = [("value" : Str)]
  g_are_words : T.mg ("are_words" : Str) = some (.ref (Φ 11).addr)
  d_is_whole : FunD T.K ("is_whole" : Str) ("is_whole" : Str) (defArgs s_is_whole) (defBody s_is_whole) (defScope s_is_whole) [] [] (Φ 12).addr (Φ 12).fd
  p_is_whole : (Φ 12).ps = [("value" : Str), ("low" : Str), ("high" : Str)]
  g_is_whole : T.mg ("is_whole" : Str) = some (.ref (Φ 12).addr)
  d_wrong_part : FunD T.K ("wrong_part" : Str) ("wrong_part" : Str) (defArgs s_wrong_part) (defBody s_wrong_part) (defScope s_wrong_part) [] [] (Φ 13).addr (Φ 13).fd
  p_wrong_part : (Φ 13).ps = [("row" : Str)]
  g_wrong_part : T.mg ("wrong_part" : Str) = some (.ref (Φ 13).addr)
  t_Rule_init_meets : TupK T.K (ka 0) [V.str ("yield" : Str)]
  t_Rule_init_stands : TupK T.K (ka 1) [V.str ("lesser" : Str)]
  d_Rule_init : FunD T.K ("__init__" : Str) ("Rule.__init__" : Str) (defArgs s_Rule_init) (defBody s_Rule_init) (defScope s_Rule_init) [] [(("meets" : Str), V.ref (ka 0)), (("stands" : Str), V.ref (ka 1)), (("answers" : Str), .bl true), (("again" : Str), .bl true)] (Φ 14).addr (Φ 14).fd
  p_Rule_init : (Φ 14).ps = [("self" : Str), ("asks" : Str), ("tells" : Str), ("meets" : Str), ("stands" : Str), ("answers" : Str), ("again" : Str)]
  d_law_made : FunD T.K ("_law_made" : Str) ("_law_made" : Str) (defArgs s_law_made) (defBody s_law_made) (defScope s_law_made) [] [] (Φ 15).addr (Φ 15).fd
  p_law_made : (Φ 15).ps = [("_law_parts_here" : Str)]
  g_law_made : T.mg ("_law_made" : Str) = some (.ref (Φ 15).addr)
  d_check_rule : FunD T.K ("check_rule" : Str) ("check_rule" : Str) (defArgs s_check_rule) (defBody s_check_rule) (defScope s_check_rule) [] [] (Φ 16).addr (Φ 16).fd
  p_check_rule : (Φ 16).ps = [("value" : Str)]
  g_check_rule : T.mg ("check_rule" : Str) = some (.ref (Φ 16).addr)
  d_check_two : FunD T.K ("check_two" : Str) ("check_two" : Str) (defArgs s_check_two) (defBody s_check_two) (defScope s_check_two) [] [] (Φ 17).addr (Φ 17).fd
  p_check_two : (Φ 17).ps = [("one" : Str), ("other" : Str)]
  g_check_two : T.mg ("check_two" : Str) = some (.ref (Φ 17).addr)
  d_Rule_asks : FunD T.K ("asks" : Str) ("Rule.asks" : Str) (defArgs s_Rule_asks) (defBody s_Rule_asks) (defScope s_Rule_asks) [] [] (Φ 18).addr (Φ 18).fd
  p_Rule_asks : (Φ 18).ps = [("self" : Str)]
  pr_Rule_asks : ∃ p, PropOf T.K (T.cls 0) ("asks" : Str) p (Φ 18).addr
  d_Rule_tells : FunD T.K ("tells" : Str) ("Rule.tells" : Str) (defArgs s_Rule_tells) (defBody s_Rule_tells) (defScope s_Rule_tells) [] [] (Φ 19).addr (Φ 19).fd
  p_Rule_tells : (Φ 19).ps = [("self" : Str)]
  pr_Rule_tells : ∃ p, PropOf T.K (T.cls 0) ("tells" : Str) p (Φ 19).addr
  d_Rule_again : FunD T.K ("again" : Str) ("Rule.again" : Str) (defArgs s_Rule_again) (defBody s_Rule_again) (defScope s_Rule_again) [] [] (Φ 20).addr (Φ 20).fd
  p_Rule_again : (Φ 20).ps = [("self" : Str)]
  pr_Rule_again : ∃ p, PropOf T.K (T.cls 0) ("again" : Str) p (Φ 20).addr
  d_own : FunD T.K ("own" : Str) ("own" : Str) (defArgs s_own) (defBody s_own) (defScope s_own) [] [] (Φ 21).addr (Φ 21).fd
  p_own : (Φ 21).ps = [("rule" : Str), ("state" : Str), ("word" : Str)]
  g_own : T.mg ("own" : Str) = some (.ref (Φ 21).addr)
  d_gives_way : FunD T.K ("gives_way" : Str) ("gives_way" : Str) (defArgs s_gives_way) (defBody s_gives_way) (defScope s_gives_way) [] [] (Φ 22).addr (Φ 22).fd
  p_gives_way : (Φ 22).ps = [("word" : Str), ("is_lesser" : Str)]
  g_gives_way : T.mg ("gives_way" : Str) = some (.ref (Φ 22).addr)
  d_Rule_meets : FunD T.K ("meets" : Str) ("Rule.meets" : Str) (defArgs s_Rule_meets) (defBody s_Rule_meets) (defScope s_Rule_meets) [] [] (Φ 23).addr (Φ 23).fd
  p_Rule_meets : (Φ 23).ps = [("self" : Str)]
  pr_Rule_meets : ∃ p, PropOf T.K (T.cls 0) ("meets" : Str) p (Φ 23).addr
  d_Rule_stands : FunD T.K ("stands" : Str) ("Rule.stands" : Str) (defArgs s_Rule_stands) (defBody s_Rule_stands) (defScope s_Rule_stands) [] [] (Φ 24).addr (Φ 24).fd
  p_Rule_stands : (Φ 24).ps = [("self" : Str)]
  pr_Rule_stands : ∃ p, PropOf T.K (T.cls 0) ("stands" : Str) p (Φ 24).addr
  d_heard : FunD T.K ("heard" : Str) ("heard" : Str) (defArgs s_heard) (defBody s_heard) (defScope s_heard) [] [] (Φ 25).addr (Φ 25).fd
  p_heard : (Φ 25).ps = [("rule" : Str), ("state" : Str), ("letter" : Str), ("is_lesser" : Str)]
  g_heard : T.mg ("heard" : Str) = some (.ref (Φ 25).addr)
  d_Rule_answers : FunD T.K ("answers" : Str) ("Rule.answers" : Str) (defArgs s_Rule_answers) (defBody s_Rule_answers) (defScope s_Rule_answers) [] [] (Φ 26).addr (Φ 26).fd
  p_Rule_answers : (Φ 26).ps = [("self" : Str)]
  pr_Rule_answers : ∃ p, PropOf T.K (T.cls 0) ("answers" : Str) p (Φ 26).addr
  d_replies : FunD T.K ("replies" : Str) ("replies" : Str) (defArgs s_replies) (defBody s_replies) (defScope s_replies) [] [] (Φ 27).addr (Φ 27).fd
  p_replies : (Φ 27).ps = [("rule" : Str), ("state" : Str), ("is_lesser" : Str)]
  g_replies : T.mg ("replies" : Str) = some (.ref (Φ 27).addr)
  d_turned : FunD T.K ("turned" : Str) ("turned" : Str) (defArgs s_turned) (defBody s_turned) (defScope s_turned) [] [] (Φ 28).addr (Φ 28).fd
  p_turned : (Φ 28).ps = [("rule" : Str), ("state" : Str), ("turn" : Str)]
  g_turned : T.mg ("turned" : Str) = some (.ref (Φ 28).addr)
  d_is_parted : FunD T.K ("is_parted" : Str) ("is_parted" : Str) (defArgs s_is_parted) (defBody s_is_parted) (defScope s_is_parted) [] [] (Φ 29).addr (Φ 29).fd
  p_is_parted : (Φ 29).ps = [("first" : Str), ("second" : Str)]
  g_is_parted : T.mg ("is_parted" : Str) = some (.ref (Φ 29).addr)
  d_Alike_shows : FunD T.K ("shows" : Str) ("Alike.shows" : Str) (defArgs s_Alike_shows) (defBody s_Alike_shows) (defScope s_Alike_shows) [] [] (Φ 30).addr (Φ 30).fd
  p_Alike_shows : (Φ 30).ps = [("self" : Str), ("one" : Str), ("other" : Str)]
  me_Alike_shows : Meth T.K (T.cls 2) ("shows" : Str) (Φ 30).addr
  d_Alike_init : FunD T.K ("__init__" : Str) ("Alike.__init__" : Str) (defArgs s_Alike_init) (defBody s_Alike_init) (defScope s_Alike_init) [] [] (Φ 31).addr (Φ 31).fd
  p_Alike_init : (Φ 31).ps = [("self" : Str), ("legs" : Str)]
  d_law_is_alike : FunD T.K ("_law_is_alike" : Str) ("_law_is_alike" : Str) (defArgs s_law_is_alike) (defBody s_law_is_alike) (defScope s_law_is_alike) [] [] (Φ 32).addr (Φ 32).fd
  p_law_is_alike : (Φ 32).ps = [("_law_one" : Str), ("_law_other" : Str), ("_law_states" : Str)]
  g_law_is_alike : T.mg ("_law_is_alike" : Str) = some (.ref (Φ 32).addr)
  d_law_lists_right : FunD T.K ("_law_lists_right" : Str) ("_law_lists_right" : Str) (defArgs s_law_lists_right) (defBody s_law_lists_right) (defScope s_law_lists_right) [] [] (Φ 33).addr (Φ 33).fd
  p_law_lists_right : (Φ 33).ps = [("_law_draw" : Str), ("_law_one" : Str), ("_law_other" : Str), ("_law_found" : Str)]
  g_law_lists_right : T.mg ("_law_lists_right" : Str) = some (.ref (Φ 33).addr)
  d_Parted_shows : FunD T.K ("shows" : Str) ("Parted.shows" : Str) (defArgs s_Parted_shows) (defBody s_Parted_shows) (defScope s_Parted_shows) [] [] (Φ 34).addr (Φ 34).fd
  p_Parted_shows : (Φ 34).ps = [("self" : Str), ("one" : Str), ("other" : Str)]
  me_Parted_shows : Meth T.K (T.cls 3) ("shows" : Str) (Φ 34).addr
  d_Parted_init : FunD T.K ("__init__" : Str) ("Parted.__init__" : Str) (defArgs s_Parted_init) (defBody s_Parted_init) (defScope s_Parted_init) [] [] (Φ 35).addr (Φ 35).fd
  p_Parted_init : (Φ 35).ps = [("self" : Str), ("turns" : Str)]
  d_law_is_parting : FunD T.K ("_law_is_parting" : Str) ("_law_is_parting" : Str) (defArgs s_law_is_parting) (defBody s_law_is_parting) (defScope s_law_is_parting) [] [] (Φ 36).addr (Φ 36).fd
  p_law_is_parting : (Φ 36).ps = [("_law_one" : Str), ("_law_other" : Str), ("_law_row" : Str)]
  g_law_is_parting : T.mg ("_law_is_parting" : Str) = some (.ref (Φ 36).addr)
  d_law_rows_right : FunD T.K ("_law_rows_right" : Str) ("_law_rows_right" : Str) (defArgs s_law_rows_right) (defBody s_law_rows_right) (defScope s_law_rows_right) [] [] (Φ 37).addr (Φ 37).fd
  p_law_rows_right : (Φ 37).ps = [("_law_draw" : Str), ("_law_one" : Str), ("_law_other" : Str), ("_law_found" : Str)]
  g_law_rows_right : T.mg ("_law_rows_right" : Str) = some (.ref (Φ 37).addr)
  d_Alike_eq : FunD T.K ("__eq__" : Str) ("Alike.__eq__" : Str) (defArgs s_Alike_eq) (defBody s_Alike_eq) (defScope s_Alike_eq) [] [] (Φ 38).addr (Φ 38).fd
  p_Alike_eq : (Φ 38).ps = [("self" : Str), ("other" : Str)]
  me_Alike_eq : Meth T.K (T.cls 2) ("__eq__" : Str) (Φ 38).addr
  d_Parted_eq : FunD T.K ("__eq__" : Str) ("Parted.__eq__" : Str) (defArgs s_Parted_eq) (defBody s_Parted_eq) (defScope s_Parted_eq) [] [] (Φ 39).addr (Φ 39).fd
  p_Parted_eq : (Φ 39).ps = [("self" : Str), ("other" : Str)]
  me_Parted_eq : Meth T.K (T.cls 3) ("__eq__" : Str) (Φ 39).addr
  d_law_equal_right : FunD T.K ("_law_equal_right" : Str) ("_law_equal_right" : Str) (defArgs s_law_equal_right) (defBody s_law_equal_right) (defScope s_law_equal_right) [] [] (Φ 40).addr (Φ 40).fd
  p_law_equal_right : (Φ 40).ps = [("_law_found" : Str)]
  g_law_equal_right : T.mg ("_law_equal_right" : Str) = some (.ref (Φ 40).addr)
  d_law : FunD T.K ("law" : Str) ("law" : Str) (defArgs s_law) (defBody s_law) (defScope s_law) [] [] (Φ 41).addr (Φ 41).fd
  p_law : (Φ 41).ps = [("_law_script" : Str)]
  g_law : T.mg ("law" : Str) = some (.ref (Φ 41).addr)
  k_MOST_ASKS : ∃ t, T.mg ("MOST_ASKS" : Str) = some (.int 9 t)
  k_MOST_TELLS : ∃ t, T.mg ("MOST_TELLS" : Str) = some (.int 3 t)
  k_PARTS : T.mg ("PARTS" : Str) = some (.ref (ka 2))
  t_PARTS : TupK T.K (ka 2) [V.str ("asks" : Str), V.str ("tells" : Str), V.str ("meets" : Str), V.str ("stands" : Str), V.str ("answers" : Str), V.str ("again" : Str)]
  k_TURNS : T.mg ("TURNS" : Str) = some (.ref (ka 3))
  t_TURNS_0 : TupK T.K (ka 4) [V.str ("pick" : Str), V.non]
  t_TURNS_1 : TupK T.K (ka 5) [V.str ("ask" : Str), V.non]
  t_TURNS_2 : TupK T.K (ka 6) [V.str ("take" : Str), V.non]
  t_TURNS_3 : TupK T.K (ka 7) [V.str ("tell" : Str), V.non]
  t_TURNS_4 : TupK T.K (ka 8) [V.str ("leave" : Str), V.non]
  t_TURNS_5 : TupK T.K (ka 9) [V.str ("ask" : Str), V.str ("greater" : Str)]
  t_TURNS_6 : TupK T.K (ka 10) [V.str ("ask" : Str), V.str ("lesser" : Str)]
  t_TURNS_7 : TupK T.K (ka 11) [V.str ("tell" : Str), V.str ("greater" : Str)]
  t_TURNS_8 : TupK T.K (ka 12) [V.str ("tell" : Str), V.str ("lesser" : Str)]
  t_TURNS_9 : TupK T.K (ka 13) [V.str ("answer" : Str), V.str ("greater" : Str)]
  t_TURNS_10 : TupK T.K (ka 14) [V.str ("answer" : Str), V.str ("lesser" : Str)]
  t_TURNS : TupK T.K (ka 3) [V.ref (ka 4), V.ref (ka 5), V.ref (ka 6), V.ref (ka 7), V.ref (ka 8), V.ref (ka 9), V.ref (ka 10), V.ref (ka 11), V.ref (ka 12), V.ref (ka 13), V.ref (ka 14)]
  k_WORDS : T.mg ("WORDS" : Str) = some (.ref (ka 15))
  t_WORDS : TupK T.K (ka 15) [V.str ("lesser" : Str), V.str ("stay" : Str), V.str ("yield" : Str)]
  gm_Rule : T.mg ("Rule" : Str) = some (.ref (T.cls 0))
  cl_Rule : Cls T.K (T.cls 0)
  mk_Rule : Mk T.K (T.cls 0) (Φ 14).addr
  na_Rule_row : NoAttr T.K (T.cls 0) ("row" : Str)
  i1_Rule : PySem.W.findIn T.K (.ref (T.cls 0)) "__class__" = some (some (.builtin "object.__class__"))
  i2_Rule : PySem.W.mroIn T.K (T.cls 0) (.type "object") = some true
  i3_Rule_int : PySem.W.kitOne T.K (.ref (T.cls 0)) (.type "int") = some false
  i3_Rule_str : PySem.W.kitOne T.K (.ref (T.cls 0)) (.type "str") = some false
  i3_Rule_bool : PySem.W.kitOne T.K (.ref (T.cls 0)) (.type "bool") = some false
  i3_Rule_tuple : PySem.W.kitOne T.K (.ref (T.cls 0)) (.type "tuple") = some false
  i3_Rule_list : PySem.W.kitOne T.K (.ref (T.cls 0)) (.type "list") = some false
  i3_Rule_dict : PySem.W.kitOne T.K (.ref (T.cls 0)) (.type "dict") = some false
  i4_Rule_NoneType : PySem.W.kitOne T.K (.type "NoneType") (.ref (T.cls 0)) = some false
  i5_Rule_NoneType : PySem.W.subIn T.K (.type "NoneType") (.ref (T.cls 0)) = some false
  i4_Rule_bool : PySem.W.kitOne T.K (.type "bool") (.ref (T.cls 0)) = some false
  i5_Rule_bool : PySem.W.subIn T.K (.type "bool") (.ref (T.cls 0)) = some false
  i4_Rule_int : PySem.W.kitOne T.K (.type "int") (.ref (T.cls 0)) = some false
  i5_Rule_int : PySem.W.subIn T.K (.type "int") (.ref (T.cls 0)) = some false
  i4_Rule_str : PySem.W.kitOne T.K (.type "str") (.ref (T.cls 0)) = some false
  i5_Rule_str : PySem.W.subIn T.K (.type "str") (.ref (T.cls 0)) = some false
  i4_Rule_tuple : PySem.W.kitOne T.K (.type "tuple") (.ref (T.cls 0)) = some false
  i5_Rule_tuple : PySem.W.subIn T.K (.type "tuple") (.ref (T.cls 0)) = some false
  i4_Rule_list : PySem.W.kitOne T.K (.type "list") (.ref (T.cls 0)) = some false
  i5_Rule_list : PySem.W.subIn T.K (.type "list") (.ref (T.cls 0)) = some false
  i4_Rule_dict : PySem.W.kitOne T.K (.type "dict") (.ref (T.cls 0)) = some false
  i5_Rule_dict : PySem.W.subIn T.K (.type "dict") (.ref (T.cls 0)) = some false
  i6_Rule_Rule : PySem.W.kitOne T.K (.ref (T.cls 0)) (.ref (T.cls 0)) = some true
  i6_Rule_Alike : PySem.W.kitOne T.K (.ref (T.cls 0)) (.ref (T.cls 2)) = some false
  i6_Rule_Parted : PySem.W.kitOne T.K (.ref (T.cls 0)) (.ref (T.cls 3)) = some false
  ne_Rule : PySem.W.findIn T.K (.ref (T.cls 0)) "__ne__" = some (some (.builtin "object.__ne__"))
  gm_Alike : T.mg ("Alike" : Str) = some (.ref (T.cls 2))
  cl_Alike : Cls T.K (T.cls 2)
  mk_Alike : Mk T.K (T.cls 2) (Φ 31).addr
  na_Alike_legs : NoAttr T.K (T.cls 2) ("legs" : Str)
  i1_Alike : PySem.W.findIn T.K (.ref (T.cls 2)) "__class__" = some (some (.builtin "object.__class__"))
  i2_Alike : PySem.W.mroIn T.K (T.cls 2) (.type "object") = some true
  i3_Alike_int : PySem.W.kitOne T.K (.ref (T.cls 2)) (.type "int") = some false
  i3_Alike_str : PySem.W.kitOne T.K (.ref (T.cls 2)) (.type "str") = some false
  i3_Alike_bool : PySem.W.kitOne T.K (.ref (T.cls 2)) (.type "bool") = some false
  i3_Alike_tuple : PySem.W.kitOne T.K (.ref (T.cls 2)) (.type "tuple") = some false
  i3_Alike_list : PySem.W.kitOne T.K (.ref (T.cls 2)) (.type "list") = some false
  i3_Alike_dict : PySem.W.kitOne T.K (.ref (T.cls 2)) (.type "dict") = some false
  i4_Alike_NoneType : PySem.W.kitOne T.K (.type "NoneType") (.ref (T.cls 2)) = some false
  i5_Alike_NoneType : PySem.W.subIn T.K (.type "NoneType") (.ref (T.cls 2)) = some false
  i4_Alike_bool : PySem.W.kitOne T.K (.type "bool") (.ref (T.cls 2)) = some false
  i5_Alike_bool : PySem.W.subIn T.K (.type "bool") (.ref (T.cls 2)) = some false
  i4_Alike_int : PySem.W.kitOne T.K (.type "int") (.ref (T.cls 2)) = some false
  i5_Alike_int : PySem.W.subIn T.K (.type "int") (.ref (T.cls 2)) = some false
  i4_Alike_str : PySem.W.kitOne T.K (.type "str") (.ref (T.cls 2)) = some false
  i5_Alike_str : PySem.W.subIn T.K (.type "str") (.ref (T.cls 2)) = some false
  i4_Alike_tuple : PySem.W.kitOne T.K (.type "tuple") (.ref (T.cls 2)) = some false
  i5_Alike_tuple : PySem.W.subIn T.K (.type "tuple") (.ref (T.cls 2)) = some false
  i4_Alike_list : PySem.W.kitOne T.K (.type "list") (.ref (T.cls 2)) = some false
  i5_Alike_list : PySem.W.subIn T.K (.type "list") (.ref (T.cls 2)) = some false
  i4_Alike_dict : PySem.W.kitOne T.K (.type "dict") (.ref (T.cls 2)) = some false
  i5_Alike_dict : PySem.W.subIn T.K (.type "dict") (.ref (T.cls 2)) = some false
  i6_Alike_Rule : PySem.W.kitOne T.K (.ref (T.cls 2)) (.ref (T.cls 0)) = some false
  i6_Alike_Alike : PySem.W.kitOne T.K (.ref (T.cls 2)) (.ref (T.cls 2)) = some true
  i6_Alike_Parted : PySem.W.kitOne T.K (.ref (T.cls 2)) (.ref (T.cls 3)) = some false
  ne_Alike : PySem.W.findIn T.K (.ref (T.cls 2)) "__ne__" = some (some (.builtin "object.__ne__"))
  gm_Parted : T.mg ("Parted" : Str) = some (.ref (T.cls 3))
  cl_Parted : Cls T.K (T.cls 3)
  mk_Parted : Mk T.K (T.cls 3) (Φ 35).addr
  na_Parted_turns : NoAttr T.K (T.cls 3) ("turns" : Str)
  i1_Parted : PySem.W.findIn T.K (.ref (T.cls 3)) "__class__" = some (some (.builtin "object.__class__"))
  i2_Parted : PySem.W.mroIn T.K (T.cls 3) (.type "object") = some true
  i3_Parted_int : PySem.W.kitOne T.K (.ref (T.cls 3)) (.type "int") = some false
  i3_Parted_str : PySem.W.kitOne T.K (.ref (T.cls 3)) (.type "str") = some false
  i3_Parted_bool : PySem.W.kitOne T.K (.ref (T.cls 3)) (.type "bool") = some false
  i3_Parted_tuple : PySem.W.kitOne T.K (.ref (T.cls 3)) (.type "tuple") = some false
  i3_Parted_list : PySem.W.kitOne T.K (.ref (T.cls 3)) (.type "list") = some false
  i3_Parted_dict : PySem.W.kitOne T.K (.ref (T.cls 3)) (.type "dict") = some false
  i4_Parted_NoneType : PySem.W.kitOne T.K (.type "NoneType") (.ref (T.cls 3)) = some false
  i5_Parted_NoneType : PySem.W.subIn T.K (.type "NoneType") (.ref (T.cls 3)) = some false
  i4_Parted_bool : PySem.W.kitOne T.K (.type "bool") (.ref (T.cls 3)) = some false
  i5_Parted_bool : PySem.W.subIn T.K (.type "bool") (.ref (T.cls 3)) = some false
  i4_Parted_int : PySem.W.kitOne T.K (.type "int") (.ref (T.cls 3)) = some false
  i5_Parted_int : PySem.W.subIn T.K (.type "int") (.ref (T.cls 3)) = some false
  i4_Parted_str : PySem.W.kitOne T.K (.type "str") (.ref (T.cls 3)) = some false
  i5_Parted_str : PySem.W.subIn T.K (.type "str") (.ref (T.cls 3)) = some false
  i4_Parted_tuple : PySem.W.kitOne T.K (.type "tuple") (.ref (T.cls 3)) = some false
  i5_Parted_tuple : PySem.W.subIn T.K (.type "tuple") (.ref (T.cls 3)) = some false
  i4_Parted_list : PySem.W.kitOne T.K (.type "list") (.ref (T.cls 3)) = some false
  i5_Parted_list : PySem.W.subIn T.K (.type "list") (.ref (T.cls 3)) = some false
  i4_Parted_dict : PySem.W.kitOne T.K (.type "dict") (.ref (T.cls 3)) = some false
  i5_Parted_dict : PySem.W.subIn T.K (.type "dict") (.ref (T.cls 3)) = some false
  i6_Parted_Rule : PySem.W.kitOne T.K (.ref (T.cls 3)) (.ref (T.cls 0)) = some false
  i6_Parted_Alike : PySem.W.kitOne T.K (.ref (T.cls 3)) (.ref (T.cls 2)) = some false
  i6_Parted_Parted : PySem.W.kitOne T.K (.ref (T.cls 3)) (.ref (T.cls 3)) = some true
  ne_Parted : PySem.W.findIn T.K (.ref (T.cls 3)) "__ne__" = some (some (.builtin "object.__ne__"))
  su_Parted_Alike : PySem.W.subIn T.K (.ref (T.cls 3)) (.ref (T.cls 2)) = some false
  o1 : PySem.W.specialIn T.K (.builtin "object.__class__") "__get__" = some (some (.builtin "getset_descriptor.__get__"))
  o2 : PySem.W.takesIn T.K (.builtin "object.__class__") = some true
  sup_BadRule : SupTxt T.prog T.K T.mg (T.cls 1) (sI 1) ("part" : Str) ("BadRule.__init__" : Str) (defArgs (subS 3 0)) (msgOf (subS 3 0)) (defScope (subS 3 0)) [.non]
  gm_BadRule : T.mg ("BadRule" : Str) = some (.ref (T.cls 1))
  xf_BadRule : XfC T.K (T.cls 1)
  na_BadRule_part : PySem.W.findIn T.K (.ref (T.cls 1)) ("part" : Str) = some none
section
variable {T : Tb} {Φ : Nat → Fn} {ka sI : Nat → Addr} {N : List Str} {sc : Scope} {W : WX} {k : Nat} {fb : Bool} {X : Cx}
theorem HD.slf (hd : HD T Φ ka sI) (z : Addr) : HD { T with slf := z } Φ ka sI := ⟨hd.hfl, hd.m_all, hd.m_bool, hd.m_dict, hd.m_enumerate, hd.m_int, hd.m_isinstance, hd.m_len, hd.m_list, hd.m_max, hd.m_min, hd.m_range, hd.m_str, hd.m_sum, hd.m_tuple, hd.m_zip, hd.d_law_number, hd.p_law_number, hd.g_law_number, hd.d_law_take, hd.p_law_take, hd.g_law_take, hd.d_law_pick, hd.p_law_pick, hd.g_law_pick, hd.d_law_words, hd.p_law_words, hd.g_law_words, hd.d_law_parts, hd.p_law_parts, hd.g_law_parts, hd.d_law_turns, hd.p_law_turns, hd.g_law_turns, hd.d_law_own, hd.p_law_own, hd.g_law_own, hd.d_law_heard, hd.p_law_heard, hd.g_law_heard, hd.d_law_turn, hd.p_law_turn, hd.g_law_turn, hd.d_law_parted, hd.p_law_parted, hd.g_law_parted, hd.d_law_reach, hd.p_law_reach, hd.g_law_reach, hd.d_are_words, hd.p_are_words, hd.g_are_words, hd.d_is_whole, hd.p_is_whole, hd.g_is_whole, hd.d_wrong_part, hd.p_wrong_part, hd.g_wrong_part, hd.t_Rule_init_meets, hd.t_Rule_init_stands, hd.d_Rule_init, hd.p_Rule_init, hd.d_law_made, hd.p_law_made, hd.g_law_made, hd.d_check_rule, hd.p_check_rule, hd.g_check_rule, hd.d_check_two, hd.p_check_two, hd.g_check_two, hd.d_Rule_asks, hd.p_Rule_asks, hd.pr_Rule_asks, hd.d_Rule_tells, hd.p_Rule_tells, hd.pr_Rule_tells, hd.d_Rule_again, hd.p_Rule_again, hd.pr_Rule_again, hd.d_own, hd.p_own, hd.g_own, hd.d_gives_way, hd.p_gives_way, hd.g_gives_way, hd.d_Rule_meets, hd.p_Rule_meets, hd.pr_Rule_meets, hd.d_Rule_stands, hd.p_Rule_stands, hd.pr_Rule_stands, hd.d_heard, hd.p_heard, hd.g_heard, hd.d_Rule_answers, hd.p_Rule_answers, hd.pr_Rule_answers, hd.d_replies, hd.p_replies, hd.g_replies, hd.d_turned, hd.p_turned, hd.g_turned, hd.d_is_parted, hd.p_is_parted, hd.g_is_parted, hd.d_Alike_shows, hd.p_Alike_shows, hd.me_Alike_shows, hd.d_Alike_init, hd.p_Alike_init, hd.d_law_is_alike, hd.p_law_is_alike, hd.g_law_is_alike, hd.d_law_lists_right, hd.p_law_lists_right, hd.g_law_lists_right, hd.d_Parted_shows, hd.p_Parted_shows, hd.me_Parted_shows, hd.d_Parted_init, hd.p_Parted_init, hd.d_law_is_parting, hd.p_law_is_parting, hd.g_law_is_parting, hd.d_law_rows_right, hd.p_law_rows_right, hd.g_law_rows_right, hd.d_Alike_eq, hd.p_Alike_eq, hd.me_Alike_eq, hd.d_Parted_eq, hd.p_Parted_eq, hd.me_Parted_eq, hd.d_law_equal_right, hd.p_law_equal_right, hd.g_law_equal_right, hd.d_law, hd.p_law, hd.g_law, hd.k_MOST_ASKS, hd.k_MOST_TELLS, hd.k_PARTS, hd.t_PARTS, hd.k_TURNS, hd.t_TURNS_0, hd.t_TURNS_1, hd.t_TURNS_2, hd.t_TURNS_3, hd.t_TURNS_4, hd.t_TURNS_5, hd.t_TURNS_6, hd.t_TURNS_7, hd.t_TURNS_8, hd.t_TURNS_9, hd.t_TURNS_10, hd.t_TURNS, hd.k_WORDS, hd.t_WORDS, hd.gm_Rule, hd.cl_Rule, hd.mk_Rule, hd.na_Rule_row, hd.i1_Rule, hd.i2_Rule, hd.i3_Rule_int, hd.i3_Rule_str, hd.i3_Rule_bool, hd.i3_Rule_tuple, hd.i3_Rule_list, hd.i3_Rule_dict, hd.i4_Rule_NoneType, hd.i5_Rule_NoneType, hd.i4_Rule_bool, hd.i5_Rule_bool, hd.i4_Rule_int, hd.i5_Rule_int, hd.i4_Rule_str, hd.i5_Rule_str, hd.i4_Rule_tuple, hd.i5_Rule_tuple, hd.i4_Rule_list, hd.i5_Rule_list, hd.i4_Rule_dict, hd.i5_Rule_dict, hd.i6_Rule_Rule, hd.i6_Rule_Alike, hd.i6_Rule_Parted, hd.ne_Rule, hd.gm_Alike, hd.cl_Alike, hd.mk_Alike, hd.na_Alike_legs, hd.i1_Alike, hd.i2_Alike, hd.i3_Alike_int, hd.i3_Alike_str, hd.i3_Alike_bool, hd.i3_Alike_tuple, hd.i3_Alike_list, hd.i3_Alike_dict, hd.i4_Alike_NoneType, hd.i5_Alike_NoneType, hd.i4_Alike_bool, hd.i5_Alike_bool, hd.i4_Alike_int, hd.i5_Alike_int, hd.i4_Alike_str, hd.i5_Alike_str, hd.i4_Alike_tuple, hd.i5_Alike_tuple, hd.i4_Alike_list, hd.i5_Alike_list, hd.i4_Alike_dict, hd.i5_Alike_dict, hd.i6_Alike_Rule, hd.i6_Alike_Alike, hd.i6_Alike_Parted, hd.ne_Alike, hd.gm_Parted, hd.cl_Parted, hd.mk_Parted, hd.na_Parted_turns, hd.i1_Parted, hd.i2_Parted, hd.i3_Parted_int, hd.i3_Parted_str, hd.i3_Parted_bool, hd.i3_Parted_tuple, hd.i3_Parted_list, hd.i3_Parted_dict, hd.i4_Parted_NoneType, hd.i5_Parted_NoneType, hd.i4_Parted_bool, hd.i5_Parted_bool, hd.i4_Parted_int, hd.i5_Parted_int, hd.i4_Parted_str, hd.i5_Parted_str, hd.i4_Parted_tuple, hd.i5_Parted_tuple, hd.i4_Parted_list, hd.i5_Parted_list, hd.i4_Parted_dict, hd.i5_Parted_dict, hd.i6_Parted_Rule, hd.i6_Parted_Alike, hd.i6_Parted_Parted, hd.ne_Parted, hd.su_Parted_Alike, hd.o1, hd.o2, hd.sup_BadRule, hd.gm_BadRule, hd.xf_BadRule, hd.na_BadRule_part⟩
theorem gc_MOST_ASKS (hd : HD T Φ ka sI) : GC T ("MOST_ASKS" : Str) c_MOST_ASKS := gc_int hd.k_MOST_ASKS
theorem gc_MOST_TELLS (hd : HD T Φ ka sI) : GC T ("MOST_TELLS" : Str) c_MOST_TELLS := gc_int hd.k_MOST_TELLS
theorem gc_PARTS (hd : HD T Φ ka sI) : GC T ("PARTS" : Str) c_PARTS := gc_tup hd.k_PARTS hd.t_PARTS (fun A H => Dens.cons (by simp [Den]) (Dens.cons (by simp [Den]) (Dens.cons (by simp [Den]) (Dens.cons (by simp [Den]) (Dens.cons (by simp [Den]) (Dens.cons (by simp [Den]) (Dens.nil)))))))
theorem gc_TURNS (hd : HD T Φ ka sI) : GC T ("TURNS" : Str) c_TURNS := gc_tup hd.k_TURNS hd.t_TURNS (fun A H => Dens.cons (den_tup hd.t_TURNS_0 (Dens.cons (by simp [Den]) (Dens.cons (by simp [Den]) (Dens.nil)))) (Dens.cons (den_tup hd.t_TURNS_1 (Dens.cons (by simp [Den]) (Dens.cons (by simp [Den]) (Dens.nil)))) (Dens.cons (den_tup hd.t_TURNS_2 (Dens.cons (by simp [Den]) (Dens.cons (by simp [Den]) (Dens.nil)))) (Dens.cons (den_tup hd.t_TURNS_3 (Dens.cons (by simp [Den]) (Dens.cons (by simp [Den]) (Dens.nil)))) (Dens.cons (den_tup hd.t_TURNS_4 (Dens.cons (by simp [Den]) (Dens.cons (by simp [Den]) (Dens.nil)))) (Dens.cons (den_tup hd.t_TURNS_5 (Dens.cons (by simp [Den]) (Dens.cons (by simp [Den]) (Dens.nil)))) (Dens.cons (den_tup hd.t_TURNS_6 (Dens.cons (by simp [Den]) (Dens.cons (by simp [Den]) (Dens.nil)))) (Dens.cons (den_tup hd.t_TURNS_7 (Dens.cons (by simp [Den]) (Dens.cons (by simp [Den]) (Dens.nil)))) (Dens.cons (den_tup hd.t_TURNS_8 (Dens.cons (by simp [Den]) (Dens.cons (by simp [Den]) (Dens.nil)))) (Dens.cons (den_tup hd.t_TURNS_9 (Dens.cons (by simp [Den]) (Dens.cons (by simp [Den]) (Dens.nil)))) (Dens.cons (den_tup hd.t_TURNS_10 (Dens.cons (by simp [Den]) (Dens.cons (by simp [Den]) (Dens.nil)))) (Dens.nil))))))))))))
theorem gc_WORDS (hd : HD T Φ ka sI) : GC T ("WORDS" : Str) c_WORDS := gc_tup hd.k_WORDS hd.t_WORDS (fun A H => Dens.cons (by simp [Den]) (Dens.cons (by simp [Den]) (Dens.cons (by simp [Den]) (Dens.nil))))
theorem ins_Rule (hd : HD T Φ ka sI) : InsOk T 0 := ⟨hd.cl_Rule, hd.i1_Rule, hd.o1, hd.o2, hd.i2_Rule, all6 hd.i3_Rule_int hd.i3_Rule_str hd.i3_Rule_bool hd.i3_Rule_tuple hd.i3_Rule_list hd.i3_Rule_dict⟩
theorem tyc_Rule (hd : HD T Φ ka sI) : TyOk T subT clsT (.c 0) := TyC (all7 hd.i4_Rule_NoneType hd.i4_Rule_bool hd.i4_Rule_int hd.i4_Rule_str hd.i4_Rule_tuple hd.i4_Rule_list hd.i4_Rule_dict) (by intro c h; simp only [clsT, List.mem_cons, List.mem_nil_iff, or_false, List.not_mem_nil] at h; rcases h with rfl | rfl | rfl <;> (first | exact hd.i6_Rule_Rule | exact hd.i6_Alike_Rule | exact hd.i6_Parted_Rule))
theorem ins_Alike (hd : HD T Φ ka sI) : InsOk T 2 := ⟨hd.cl_Alike, hd.i1_Alike, hd.o1, hd.o2, hd.i2_Alike, all6 hd.i3_Alike_int hd.i3_Alike_str hd.i3_Alike_bool hd.i3_Alike_tuple hd.i3_Alike_list hd.i3_Alike_dict⟩
theorem tyc_Alike (hd : HD T Φ ka sI) : TyOk T subT clsT (.c 2) := TyC (all7 hd.i4_Alike_NoneType hd.i4_Alike_bool hd.i4_Alike_int hd.i4_Alike_str hd.i4_Alike_tuple hd.i4_Alike_list hd.i4_Alike_dict) (by intro c h; simp only [clsT, List.mem_cons, List.mem_nil_iff, or_false, List.not_mem_nil] at h; rcases h with rfl | rfl | rfl <;> (first | exact hd.i6_Rule_Alike | exact hd.i6_Alike_Alike | exact hd.i6_Parted_Alike))
theorem ins_Parted (hd : HD T Φ ka sI) : InsOk T 3 := ⟨hd.cl_Parted, hd.i1_Parted, hd.o1, hd.o2, hd.i2_Parted, all6 hd.i3_Parted_int hd.i3_Parted_str hd.i3_Parted_bool hd.i3_Parted_tuple hd.i3_Parted_list hd.i3_Parted_dict⟩
theorem tyc_Parted (hd : HD T Φ ka sI) : TyOk T subT clsT (.c 3) := TyC (all7 hd.i4_Parted_NoneType hd.i4_Parted_bool hd.i4_Parted_int hd.i4_Parted_str hd.i4_Parted_tuple hd.i4_Parted_list hd.i4_Parted_dict) (by intro c h; simp only [clsT, List.mem_cons, List.mem_nil_iff, or_false, List.not_mem_nil] at h; rcases h with rfl | rfl | rfl <;> (first | exact hd.i6_Rule_Parted | exact hd.i6_Alike_Parted | exact hd.i6_Parted_Parted))
theorem insAll (hd : HD T Φ ka sI) : ∀ c ∈ clsT, InsOk T c := by intro c h; simp only [clsT, List.mem_cons, List.mem_nil_iff, or_false, List.not_mem_nil] at h; rcases h with rfl | rfl | rfl <;> (first | exact ins_Rule hd | exact ins_Alike hd | exact ins_Parted hd)
theorem msg_BadRule (hd : HD T Φ ka sI) : MsgD T (defScope (subS 3 0)) "part" (msgOf (subS 3 0)) okPart := fun d A H v u h hd r => by
  cases d with
  | non => simp only [Den] at hd; subst hd; cases r; exact msg_none (by decide)
  | str x =>
    simp only [Den] at hd; subst hd
    obtain ⟨t, rfl⟩ := r
    have : x.length ≤ 100 := by simpa [okPart] using h
    exact msg_str (by decide) (by rw [sizeLine_eq]; have : (PySem.Str.ofString "not right: ").length = 11 := by decide
                                  omega)
  | _ => simp [okPart] at h
theorem msg0_BadRule (hd : HD T Φ ka sI) : MsgOk T.prog T.w T.mg (defScope (subS 3 0)) "part" (msgOf (subS 3 0)) .none := msg_none (by decide)
theorem af_legs (hd : HD T Φ ka sI) : ∀ c g, (c, some g) ∈ al_legs → OkB T Φ 0 g 1 (MA_legs g) := by
  intro c g h; simp only [al_legs, List.mem_cons, Prod.mk.injEq, List.not_mem_nil, or_false, Option.some.injEq, reduceCtorEq, and_false] at h
theorem ao_legs (hd : HD T Φ ka sI) : ∀ alt ∈ al_legs, AltOk T Φ ("legs" : Str) alt := by
  intro alt h; simp only [al_legs, List.mem_cons, List.not_mem_nil, or_false] at h
  subst h; exact ⟨hd.cl_Alike, hd.na_Alike_legs⟩
theorem af_row (hd : HD T Φ ka sI) : ∀ c g, (c, some g) ∈ al_row → OkB T Φ 0 g 1 (MA_row g) := by
  intro c g h; simp only [al_row, List.mem_cons, Prod.mk.injEq, List.not_mem_nil, or_false, Option.some.injEq, reduceCtorEq, and_false] at h
theorem ao_row (hd : HD T Φ ka sI) : ∀ alt ∈ al_row, AltOk T Φ ("row" : Str) alt := by
  intro alt h; simp only [al_row, List.mem_cons, List.not_mem_nil, or_false] at h
  subst h; exact ⟨hd.cl_Rule, hd.na_Rule_row⟩
theorem af_turns (hd : HD T Φ ka sI) : ∀ c g, (c, some g) ∈ al_turns → OkB T Φ 0 g 1 (MA_turns g) := by
  intro c g h; simp only [al_turns, List.mem_cons, Prod.mk.injEq, List.not_mem_nil, or_false, Option.some.injEq, reduceCtorEq, and_false] at h
theorem ao_turns (hd : HD T Φ ka sI) : ∀ alt ∈ al_turns, AltOk T Φ ("turns" : Str) alt := by
  intro alt h; simp only [al_turns, List.mem_cons, List.not_mem_nil, or_false] at h
  subst h; exact ⟨hd.cl_Parted, hd.na_Parted_turns⟩
theorem bn_law_number (hd : HD T Φ ka sI) : Binds T.K (Φ 0).fd (Φ 0).ps [] := by rw [hd.p_law_number]; exact hd.d_law_number.bindsN fun _ _ _ _ _ _ us hl => match us, hl with | [_, _], _ => rfl
theorem sh_law_number (hd : HD T Φ ka sI) : ShapeOk T (Φ 0).fd (Φ 0).ps 2 [] (srcP 2) := shape_pos (bn_law_number hd) (by rw [hd.p_law_number]; rfl)
theorem b_law_number (hd : HD T Φ ka sI) (S : Sok T N_law_number (defScope s_law_number) W 1 X) : PSs X (defBody s_law_number) (tS T W F_law_number) :=
  (S_cons (S_let' S (be_ite (T_cmp (R_ne S.C) (P_var S.C 0) (P_of (be_lst A_nil))) (E_sl S.C (P_var S.C 0) bo_none (bo_some E_int)) (be_lst (A_cons E_int A_nil)))) (S_cons (S_let' S (E_add S.C (P_of (E_ix S.C (P_var S.C 2) (P_of (E_mod (P_of (E_bi S.C .int hd.m_int (Q_cons (P_var S.C 1) Q_nil))) (P_of (E_bi S.C .len hd.m_len (Q_cons (P_var S.C 2) Q_nil))))))) (P_of (E_mul S.C (P_of E_int) (P_of (E_fdiv (P_var S.C 1) (P_of (E_bi S.C .len hd.m_len (Q_cons (P_var S.C 2) Q_nil))))))))) (S_cons (S_par2 S (E_mod (P_of (E_bi S.C .int hd.m_int (Q_cons (P_var S.C 3) Q_nil))) (P_of E_int)) (E_mod (P_of (E_bi S.C .int hd.m_int (Q_cons (P_of (E_fdiv (P_var S.C 3) (P_of E_int))) Q_nil))) (P_of E_int))) (S_cons (S_let' S (E_mod (P_of (E_bi S.C .int hd.m_int (Q_cons (P_of (E_bi S.C .sum hd.m_sum (Q_cons (P_var S.C 2) Q_nil))) Q_nil))) (P_of E_int))) (S_cons (S_let' S (E_mod (P_of (E_bi S.C .int hd.m_int (Q_cons (P_of (E_add S.C (P_of (E_add S.C (P_of (E_mul S.C (P_of (E_add S.C (P_var S.C 4) (P_of (E_mul S.C (P_of E_int) (P_var S.C 1))))) (P_of E_int))) (P_of (E_mul S.C (P_of E_int) (P_var S.C 5))))) (P_var S.C 6))) Q_nil))) (P_of E_int))) (S_cons (S_ret (P_of (E_add S.C (P_of (E_mul S.C (P_of (E_mod (P_of (E_bi S.C .int hd.m_int (Q_cons (P_of (E_mul S.C (P_var S.C 7) (P_of (E_add S.C (P_of (E_add S.C (P_var S.C 7) (P_of (E_mul S.C (P_of E_int) (P_var S.C 1))))) (P_of E_int))))) Q_nil))) (P_of E_int))) (P_of E_int))) (P_var S.C 5)))) S_nil))))))
theorem ok_law_number (hd : HD T Φ ka sI) : OkB T Φ 2 0 2 M_law_number := by
  unfold OkB; rw [hd.p_law_number]
  exact FnOk_of (N := N_law_number) (ps := [("_law_script" : Str), ("_law_index" : Str)]) hd.d_law_number ⟨rfl, rfl, rfl, by decide, rfl, by decide, by decide⟩ rfl fun W X S => b_law_number hd S
theorem bn_law_take (hd : HD T Φ ka sI) : Binds T.K (Φ 1).fd (Φ 1).ps [] := by rw [hd.p_law_take]; exact hd.d_law_take.bindsN fun _ _ _ _ _ _ us hl => match us, hl with | [_, _], _ => rfl
theorem sh_law_take (hd : HD T Φ ka sI) : ShapeOk T (Φ 1).fd (Φ 1).ps 2 [] (srcP 2) := shape_pos (bn_law_take hd) (by rw [hd.p_law_take]; rfl)
theorem b_law_take (hd : HD T Φ ka sI) (S : Sok T N_law_take (defScope s_law_take) W 4 X) : PSs X (defBody s_law_take) (tS T W F_law_take) :=
  (S_cons (S_setD S 0 (E_add S.C (P_of (E_drw1 (E_var S.C 0))) (P_of E_int))) (S_cons (S_ret (P_of (E_mod (P_of (E_bi S.C .int hd.m_int (Q_cons (P_of (E_fn (src := srcP 2) S.C (ok_law_number hd) hd.g_law_number hd.d_law_number.kp (sh_law_number hd) (A_cons (E_drw0 (E_var S.C 0)) (A_cons (E_bi S.C .int hd.m_int (Q_cons (P_of (E_drw1 (E_var S.C 0))) Q_nil)) A_nil)) K_nil)) Q_nil))) (P_var S.C 1)))) S_nil))
theorem ok_law_take (hd : HD T Φ ka sI) : OkB T Φ 5 1 2 M_law_take := by
  unfold OkB; rw [hd.p_law_take]
  exact FnOk_of (N := N_law_take) (ps := [("_law_draw" : Str), ("_law_many" : Str)]) hd.d_law_take ⟨rfl, rfl, rfl, by decide, rfl, by decide, by decide⟩ rfl fun W X S => b_law_take hd S
theorem bn_law_pick (hd : HD T Φ ka sI) : Binds T.K (Φ 2).fd (Φ 2).ps [] := by rw [hd.p_law_pick]; exact hd.d_law_pick.bindsN fun _ _ _ _ _ _ us hl => match us, hl with | [_, _], _ => rfl
theorem sh_law_pick (hd : HD T Φ ka sI) : ShapeOk T (Φ 2).fd (Φ 2).ps 2 [] (srcP 2) := shape_pos (bn_law_pick hd) (by rw [hd.p_law_pick]; rfl)
theorem b_law_pick (hd : HD T Φ ka sI) (S : Sok T N_law_pick (defScope s_law_pick) W 7 X) : PSs X (defBody s_law_pick) (tS T W F_law_pick) :=
  (S_cons (S_ret (P_of (E_ix S.C (P_var S.C 1) (P_of (E_fn (src := srcP 2) S.C (ok_law_take hd) hd.g_law_take hd.d_law_take.kp (sh_law_take hd) (A_cons (E_var S.C 0) (A_cons (E_bi S.C .len hd.m_len (Q_cons (P_var S.C 1) Q_nil)) A_nil)) K_nil))))) S_nil)
theorem ok_law_pick (hd : HD T Φ ka sI) : OkB T Φ 8 2 2 M_law_pick := by
  unfold OkB; rw [hd.p_law_pick]
  exact FnOk_of (N := N_law_pick) (ps := [("_law_draw" : Str), ("_law_things" : Str)]) hd.d_law_pick ⟨rfl, rfl, rfl, by decide, rfl, by decide, by decide⟩ rfl fun W X S => b_law_pick hd S
theorem bn_law_words (hd : HD T Φ ka sI) : Binds T.K (Φ 3).fd (Φ 3).ps [] := by rw [hd.p_law_words]; exact hd.d_law_words.bindsN fun _ _ _ _ _ _ us hl => match us, hl with | [_], _ => rfl
theorem sh_law_words (hd : HD T Φ ka sI) : ShapeOk T (Φ 3).fd (Φ 3).ps 1 [] (srcP 1) := shape_pos (bn_law_words hd) (by rw [hd.p_law_words]; rfl)
theorem b_law_words (hd : HD T Φ ka sI) (S : Sok T N_law_words (defScope s_law_words) W 10 X) : PSs X (defBody s_law_words) (tS T W F_law_words) :=
  (S_cons (S_let' S (be_lst (A_cons (be_tup (A_cons E_str A_nil)) (A_cons (be_tup (A_cons E_str A_nil)) (A_cons (be_tup (A_cons E_str A_nil)) (A_cons (be_tup (A_cons E_str (A_cons E_str A_nil))) (A_cons (be_tup (A_cons E_str (A_cons E_str A_nil))) (A_cons (be_tup (A_cons E_str (A_cons E_str (A_cons E_str A_nil)))) A_nil)))))))) (S_cons (S_ret (P_of (E_fn (src := srcP 2) S.C (ok_law_pick hd) hd.g_law_pick hd.d_law_pick.kp (sh_law_pick hd) (A_cons (E_var S.C 0) (A_cons (E_add S.C (P_var S.C 1) (P_of (be_lst (A_cons (be_tup (A_cons E_str (A_cons E_str A_nil))) (A_cons (be_tup (A_cons E_str (A_cons E_str A_nil))) (A_cons (be_tup (A_cons E_str (A_cons E_str A_nil))) A_nil)))))) A_nil)) K_nil))) S_nil))
theorem ok_law_words (hd : HD T Φ ka sI) : OkB T Φ 11 3 1 M_law_words := by
  unfold OkB; rw [hd.p_law_words]
  exact FnOk_of (N := N_law_words) (ps := [("_law_draw" : Str)]) hd.d_law_words ⟨rfl, rfl, rfl, by decide, rfl, by decide, by decide⟩ rfl fun W X S => b_law_words hd S
theorem bn_law_parts (hd : HD T Φ ka sI) : Binds T.K (Φ 4).fd (Φ 4).ps [] := by rw [hd.p_law_parts]; exact hd.d_law_parts.bindsN fun _ _ _ _ _ _ us hl => match us, hl with | [_], _ => rfl
theorem sh_law_parts (hd : HD T Φ ka sI) : ShapeOk T (Φ 4).fd (Φ 4).ps 1 [] (srcP 1) := shape_pos (bn_law_parts hd) (by rw [hd.p_law_parts]; rfl)
theorem b_law_parts (hd : HD T Φ ka sI) (S : Sok T N_law_parts (defScope s_law_parts) W 13 X) : PSs X (defBody s_law_parts) (tS T W F_law_parts) :=
  (S_cons (S_par2 S (E_fn (src := srcP 2) S.C (ok_law_pick hd) hd.g_law_pick hd.d_law_pick.kp (sh_law_pick hd) (A_cons (E_var S.C 0) (A_cons (be_lst (A_cons E_int (A_cons E_int (A_cons E_int (A_cons E_int A_nil))))) A_nil)) K_nil) (E_fn (src := srcP 2) S.C (ok_law_pick hd) hd.g_law_pick hd.d_law_pick.kp (sh_law_pick hd) (A_cons (E_var S.C 0) (A_cons (be_lst (A_cons E_int (A_cons E_int (A_cons E_int (A_cons E_int A_nil))))) A_nil)) K_nil)) (S_cons (S_ret (P_of (be_tup (A_cons (E_var S.C 1) (A_cons (E_var S.C 2) (A_cons (E_fn (src := srcP 1) S.C (ok_law_words hd) hd.g_law_words hd.d_law_words.kp (sh_law_words hd) (A_cons (E_var S.C 0) A_nil) K_nil) (A_cons (E_fn (src := srcP 1) S.C (ok_law_words hd) hd.g_law_words hd.d_law_words.kp (sh_law_words hd) (A_cons (E_var S.C 0) A_nil) K_nil) (A_cons (E_cmp R_gt (P_of (E_fn (src := srcP 2) S.C (ok_law_take hd) hd.g_law_take hd.d_law_take.kp (sh_law_take hd) (A_cons (E_var S.C 0) (A_cons E_int A_nil)) K_nil)) (P_of E_int)) (A_cons (E_cmp R_gt (P_of (E_fn (src := srcP 2) S.C (ok_law_take hd) hd.g_law_take hd.d_law_take.kp (sh_law_take hd) (A_cons (E_var S.C 0) (A_cons E_int A_nil)) K_nil)) (P_of E_int)) A_nil))))))))) S_nil))
theorem ok_law_parts (hd : HD T Φ ka sI) : OkB T Φ 14 4 1 M_law_parts := by
  unfold OkB; rw [hd.p_law_parts]
  exact FnOk_of (N := N_law_parts) (ps := [("_law_draw" : Str)]) hd.d_law_parts ⟨rfl, rfl, rfl, by decide, rfl, by decide, by decide⟩ rfl fun W X S => b_law_parts hd S
theorem bn_law_turns (hd : HD T Φ ka sI) : Binds T.K (Φ 5).fd (Φ 5).ps [] := by rw [hd.p_law_turns]; exact hd.d_law_turns.bindsN fun _ _ _ _ _ _ us hl => match us, hl with | [], _ => rfl
theorem sh_law_turns (hd : HD T Φ ka sI) : ShapeOk T (Φ 5).fd (Φ 5).ps 0 [] (srcP 0) := shape_pos (bn_law_turns hd) (by rw [hd.p_law_turns]; rfl)
theorem b_law_turns (hd : HD T Φ ka sI) (S : Sok T N_law_turns (defScope s_law_turns) W 1 X) : PSs X (defBody s_law_turns) (tS T W F_law_turns) :=
  (S_cons (S_lc S [(("_law_word" : Str), 1)] (I_seq S.C (be_tup (A_cons E_str (A_cons E_str (A_cons E_str (A_cons E_str (A_cons E_str A_nil))))))) (fun _ C1 => (G_n C1 1)) (fun _ C1 => B_nil) (fun _ C1 => (be_tup (A_cons (E_var C1 1) (A_cons E_non A_nil))))) (S_cons (S_for S (I_seq S.C (be_tup (A_cons E_str (A_cons E_str (A_cons E_str A_nil))))) (G_n S.C 1 (hf := Or.inl (S.C.hfn rfl _))) (S_cons (S_let' S (E_add S.C (P_var S.C 0) (P_of (be_lst (A_cons (be_tup (A_cons (E_var S.C 1) (A_cons E_str A_nil))) (A_cons (be_tup (A_cons (E_var S.C 1) (A_cons E_str A_nil))) A_nil)))))) S_nil)) (S_cons (S_ret (P_var S.C 0)) S_nil)))
theorem ok_law_turns (hd : HD T Φ ka sI) : OkB T Φ 2 5 0 M_law_turns := by
  unfold OkB; rw [hd.p_law_turns]
  exact FnOk_of (N := N_law_turns) (ps := []) hd.d_law_turns ⟨rfl, rfl, rfl, by decide, rfl, by decide, by decide⟩ rfl fun W X S => b_law_turns hd S
theorem bn_law_own (hd : HD T Φ ka sI) : Binds T.K (Φ 6).fd (Φ 6).ps [] := by rw [hd.p_law_own]; exact hd.d_law_own.bindsN fun _ _ _ _ _ _ us hl => match us, hl with | [_, _, _], _ => rfl
theorem sh_law_own (hd : HD T Φ ka sI) : ShapeOk T (Φ 6).fd (Φ 6).ps 3 [] (srcP 3) := shape_pos (bn_law_own hd) (by rw [hd.p_law_own]; rfl)
theorem b_law_own (hd : HD T Φ ka sI) (S : Sok T N_law_own (defScope s_law_own) W 1 X) : PSs X (defBody s_law_own) (tS T W F_law_own) :=
  (S_cons (S_if (T_cmp (R_eq S.C) (P_of (E_ix S.C (P_var S.C 1) (P_of E_int))) (P_of E_str)) (S_cons (S_ret (P_of (be_ite (T_cmp (R_eq S.C) (P_var S.C 2) (P_of E_str)) (be_tup (A_cons E_str (A_cons (E_ix S.C (P_var S.C 0) (P_of E_int)) (A_cons (E_ix S.C (P_var S.C 1) (P_of E_int)) A_nil)))) E_non))) S_nil) S_nil) (S_cons (S_if (T_cmp (R_eq S.C) (P_var S.C 2) (P_of E_str)) (S_cons (S_ret (P_of (be_tup (A_cons E_str (A_cons (be_ite (T_cmp (R_eq S.C) (P_of (E_ix S.C (P_var S.C 1) (P_of E_int))) (P_of E_str)) (E_ix S.C (P_var S.C 1) (P_of E_int)) E_int) A_nil))))) S_nil) S_nil) (S_cons (S_if (T_cmp (R_eq S.C) (P_of (E_ix S.C (P_var S.C 1) (P_of E_int))) (P_of E_str)) (S_cons (S_if (T_cmp R_gt (P_of (E_ix S.C (P_var S.C 1) (P_of E_int))) (P_of E_int)) (S_cons (S_ret (P_of (be_ite (T_cmp (R_eq S.C) (P_var S.C 2) (P_of E_str)) (be_tup (A_cons E_str (A_cons (E_sub (P_of (E_ix S.C (P_var S.C 1) (P_of E_int))) (P_of E_int)) (A_cons (E_ix S.C (P_var S.C 1) (P_of E_int)) A_nil)))) E_non))) S_nil) S_nil) (S_cons (S_ret (P_of (be_ite (T_cmp (R_eq S.C) (P_var S.C 2) (P_of E_str)) (be_tup (A_cons E_str (A_cons (E_ix S.C (P_var S.C 0) (P_of E_int)) (A_cons E_int A_nil)))) E_non))) S_nil)) S_nil) (S_cons (S_if (PW.pt (bw_or (T_cmp (R_ne S.C) (P_var S.C 2) (P_of E_str)) (bw_or1 (PW.pt (bw_and (T_cmp (R_eq S.C) (P_of (E_ix S.C (P_var S.C 1) (P_of E_int))) (P_of E_int)) (bw_and1 (bt_not (T_val (E_ix S.C (P_var S.C 0) (P_of E_int)))))))))) (S_cons (S_ret (P_of E_non)) S_nil) S_nil) (S_cons (S_ret (P_of (be_tup (A_cons E_str (A_cons (E_bi S.C .max2 hd.m_max (Q_cons (P_of E_int) (Q_cons (P_of (E_sub (P_of (E_ix S.C (P_var S.C 1) (P_of E_int))) (P_of E_int))) Q_nil))) (A_cons (E_ix S.C (P_var S.C 1) (P_of E_int)) A_nil)))))) S_nil)))))
theorem ok_law_own (hd : HD T Φ ka sI) : OkB T Φ 2 6 3 M_law_own := by
  unfold OkB; rw [hd.p_law_own]
  exact FnOk_of (N := N_law_own) (ps := [("_law_parts_here" : Str), ("_law_state" : Str), ("_law_word" : Str)]) hd.d_law_own ⟨rfl, rfl, rfl, by decide, rfl, by decide, by decide⟩ rfl fun W X S => b_law_own hd S
theorem bn_law_heard (hd : HD T Φ ka sI) : Binds T.K (Φ 7).fd (Φ 7).ps [] := by rw [hd.p_law_heard]; exact hd.d_law_heard.bindsN fun _ _ _ _ _ _ us hl => match us, hl with | [_, _, _, _], _ => rfl
theorem sh_law_heard (hd : HD T Φ ka sI) : ShapeOk T (Φ 7).fd (Φ 7).ps 4 [] (srcP 4) := shape_pos (bn_law_heard hd) (by rw [hd.p_law_heard]; rfl)
theorem b_law_heard (hd : HD T Φ ka sI) (S : Sok T N_law_heard (defScope s_law_heard) W 1 X) : PSs X (defBody s_law_heard) (tS T W F_law_heard) :=
  (S_cons (S_if (PW.pt (bw_or (T_cmp (R_eq S.C) (P_of (E_ix S.C (P_var S.C 1) (P_of E_int))) (P_of E_str)) (bw_or1 (PW.pt (bw_and (T_cmp (R_eq S.C) (P_of (E_ix S.C (P_var S.C 1) (P_of E_int))) (P_of E_str)) (bw_and1 (T_cmp (R_ne S.C) (P_var S.C 2) (P_of E_str)))))))) (S_cons (S_ret (P_var S.C 1)) S_nil) S_nil) (S_cons (S_let' S (be_ite (T_cmp (R_eq S.C) (P_of (E_ix S.C (P_var S.C 1) (P_of E_int))) (P_of E_str)) (E_ix S.C (P_var S.C 0) (P_of E_int)) (E_ix S.C (P_var S.C 0) (P_of E_int)))) (S_cons (S_par2 S (E_ix S.C (P_var S.C 4) (P_of (E_ix S.C (P_var S.C 1) (P_of E_int)))) (E_sub (P_of (E_bi S.C .len hd.m_len (Q_cons (P_var S.C 4) Q_nil))) (P_of E_int))) (S_cons (S_let' S (be_or (E_cmp (R_eq S.C) (P_var S.C 5) (P_of E_str)) (be_one (be_and (E_cmp (R_eq S.C) (P_var S.C 5) (P_of E_str)) (be_one (E_var S.C 3)))))) (S_cons (S_if (T_cmp (R_eq S.C) (P_of (E_ix S.C (P_var S.C 1) (P_of E_int))) (P_of E_str)) (S_cons (S_ret (P_of (be_ite (T_val (E_var S.C 7)) (be_tup (A_cons E_str (A_cons E_int A_nil))) (be_tup (A_cons E_str (A_cons (E_bi S.C .max2 hd.m_max (Q_cons (P_of E_int) (Q_cons (P_of (E_ix S.C (P_var S.C 1) (P_of E_int))) Q_nil))) (A_cons (E_bi S.C .min2 hd.m_min (Q_cons (P_var S.C 6) (Q_cons (P_of (E_add S.C (P_of (E_ix S.C (P_var S.C 1) (P_of E_int))) (P_of E_int))) Q_nil))) A_nil))))))) S_nil) S_nil) (S_cons (S_if (T_cmp (R_ne S.C) (P_var S.C 2) (P_of E_str)) (S_cons (S_ret (P_of (be_tup (A_cons E_str (A_cons (E_ix S.C (P_var S.C 1) (P_of E_int)) A_nil))))) S_nil) S_nil) (S_cons (S_ret (P_of (be_ite (T_val (E_var S.C 7)) (be_tup (A_cons E_str (A_cons (E_bi S.C .min2 hd.m_min (Q_cons (P_var S.C 6) (Q_cons (P_of (E_add S.C (P_of (E_ix S.C (P_var S.C 1) (P_of E_int))) (P_of E_int))) Q_nil))) A_nil))) (E_var S.C 1)))) S_nil)))))))
theorem ok_law_heard (hd : HD T Φ ka sI) : OkB T Φ 2 7 4 M_law_heard := by
  unfold OkB; rw [hd.p_law_heard]
  exact FnOk_of (N := N_law_heard) (ps := [("_law_parts_here" : Str), ("_law_state" : Str), ("_law_letter" : Str), ("_law_is_less" : Str)]) hd.d_law_heard ⟨rfl, rfl, rfl, by decide, rfl, by decide, by decide⟩ rfl fun W X S => b_law_heard hd S
theorem bn_law_turn (hd : HD T Φ ka sI) : Binds T.K (Φ 8).fd (Φ 8).ps [] := by rw [hd.p_law_turn]; exact hd.d_law_turn.bindsN fun _ _ _ _ _ _ us hl => match us, hl with | [_, _, _], _ => rfl
theorem sh_law_turn (hd : HD T Φ ka sI) : ShapeOk T (Φ 8).fd (Φ 8).ps 3 [] (srcP 3) := shape_pos (bn_law_turn hd) (by rw [hd.p_law_turn]; rfl)
theorem b_law_turn (hd : HD T Φ ka sI) (S : Sok T N_law_turn (defScope s_law_turn) W 4 X) : PSs X (defBody s_law_turn) (tS T W F_law_turn) :=
  (S_cons (S_tgt' S (E_var S.C 2) (G_t2 S.C 3 4 (hf := Or.inl (S.C.hfn rfl _)) (hf2 := Or.inl (S.C.hfn rfl _)))) (S_cons (S_if (T_cmp R_is (P_var S.C 4) (P_of E_non)) (S_cons (S_let' S (E_fn (src := srcP 3) S.C (ok_law_own hd) hd.g_law_own hd.d_law_own.kp (sh_law_own hd) (A_cons (E_var S.C 0) (A_cons (E_var S.C 1) (A_cons (E_var S.C 3) A_nil))) K_nil)) (S_cons (S_ret (P_of (be_ite (T_cmp R_is (P_var S.C 5) (P_of E_non)) E_non (be_tup (A_cons (E_var S.C 5) (A_cons (be_tup (A_cons (E_ix S.C (P_var S.C 5) (P_of E_int)) (A_cons E_bl A_nil))) A_nil)))))) S_nil)) S_nil) (S_cons (S_if (PW.pt (bw_or (T_cmp (R_eq S.C) (P_of (E_ix S.C (P_var S.C 1) (P_of E_int))) (P_of E_str)) (bw_or1 (PW.pt (bw_and (T_cmp (R_eq S.C) (P_var S.C 3) (P_of E_str)) (bw_and1 (T_cmp (R_eq S.C) (P_of (E_ix S.C (P_var S.C 1) (P_of E_int))) (P_of E_str)))))))) (S_cons (S_ret (P_of E_non)) S_nil) S_nil) (S_cons (S_let' S (E_fn (src := srcP 4) S.C (ok_law_heard hd) hd.g_law_heard hd.d_law_heard.kp (sh_law_heard hd) (A_cons (E_var S.C 0) (A_cons (E_var S.C 1) (A_cons (E_var S.C 3) (A_cons (E_cmp (R_eq S.C) (P_var S.C 4) (P_of E_str)) A_nil)))) K_nil)) (S_cons (S_ret (P_of (be_tup (A_cons (E_var S.C 5) (A_cons (be_tup (A_cons (E_ix S.C (P_var S.C 5) (P_of E_int)) (A_cons (be_and (E_ix S.C (P_var S.C 0) (P_of E_int)) (be_and (E_cmp (R_ne S.C) (P_of (E_ix S.C (P_var S.C 5) (P_of E_int))) (P_of E_str)) (be_one (E_cmp (R_eq S.C) (P_var S.C 3) (P_of E_str))))) A_nil))) A_nil))))) S_nil)))))
theorem ok_law_turn (hd : HD T Φ ka sI) : OkB T Φ 5 8 3 M_law_turn := by
  unfold OkB; rw [hd.p_law_turn]
  exact FnOk_of (N := N_law_turn) (ps := [("_law_parts_here" : Str), ("_law_state" : Str), ("_law_turn_here" : Str)]) hd.d_law_turn ⟨rfl, rfl, rfl, by decide, rfl, by decide, by decide⟩ rfl fun W X S => b_law_turn hd S
theorem bn_law_parted (hd : HD T Φ ka sI) : Binds T.K (Φ 9).fd (Φ 9).ps [] := by rw [hd.p_law_parted]; exact hd.d_law_parted.bindsN fun _ _ _ _ _ _ us hl => match us, hl with | [_, _, _, _], _ => rfl
theorem sh_law_parted (hd : HD T Φ ka sI) : ShapeOk T (Φ 9).fd (Φ 9).ps 4 [] (srcP 4) := shape_pos (bn_law_parted hd) (by rw [hd.p_law_parted]; rfl)
theorem b_law_parted (hd : HD T Φ ka sI) (S : Sok T N_law_parted (defScope s_law_parted) W 7 X) : PSs X (defBody s_law_parted) (tS T W F_law_parted) :=
  (S_cons (S_par2 S (E_fn (src := srcP 3) S.C (ok_law_turn hd) hd.g_law_turn hd.d_law_turn.kp (sh_law_turn hd) (A_cons (E_var S.C 0) (A_cons (E_ix S.C (P_var S.C 2) (P_of E_int)) (A_cons (E_var S.C 3) A_nil))) K_nil) (E_fn (src := srcP 3) S.C (ok_law_turn hd) hd.g_law_turn hd.d_law_turn.kp (sh_law_turn hd) (A_cons (E_var S.C 1) (A_cons (E_ix S.C (P_var S.C 2) (P_of E_int)) (A_cons (E_var S.C 3) A_nil))) K_nil)) (S_cons (S_if (PW.pt (bw_or (T_cmp R_is (P_var S.C 4) (P_of E_non)) (bw_or1 (T_cmp R_is (P_var S.C 5) (P_of E_non))))) (S_cons (S_ret (P_of (be_tup (A_cons (E_cmp (R_ne S.C) (P_of (E_cmp R_is (P_var S.C 4) (P_of E_non))) (P_of (E_cmp R_is (P_var S.C 5) (P_of E_non)))) (A_cons E_non A_nil))))) S_nil) S_nil) (S_cons (S_ret (P_of (be_tup (A_cons (E_cmp (R_ne S.C) (P_of (E_ix S.C (P_var S.C 4) (P_of E_int))) (P_of (E_ix S.C (P_var S.C 5) (P_of E_int)))) (A_cons (be_tup (A_cons (E_ix S.C (P_var S.C 4) (P_of E_int)) (A_cons (E_ix S.C (P_var S.C 5) (P_of E_int)) A_nil))) A_nil))))) S_nil)))
theorem ok_law_parted (hd : HD T Φ ka sI) : OkB T Φ 8 9 4 M_law_parted := by
  unfold OkB; rw [hd.p_law_parted]
  exact FnOk_of (N := N_law_parted) (ps := [("_law_one" : Str), ("_law_other" : Str), ("_law_both" : Str), ("_law_turn_here" : Str)]) hd.d_law_parted ⟨rfl, rfl, rfl, by decide, rfl, by decide, by decide⟩ rfl fun W X S => b_law_parted hd S
theorem bn_law_reach (hd : HD T Φ ka sI) : Binds T.K (Φ 10).fd (Φ 10).ps [] := by rw [hd.p_law_reach]; exact hd.d_law_reach.bindsN fun _ _ _ _ _ _ us hl => match us, hl with | [_, _], _ => rfl
theorem sh_law_reach (hd : HD T Φ ka sI) : ShapeOk T (Φ 10).fd (Φ 10).ps 2 [] (srcP 2) := shape_pos (bn_law_reach hd) (by rw [hd.p_law_reach]; rfl)
theorem b_law_reach (hd : HD T Φ ka sI) (S : Sok T N_law_reach (defScope s_law_reach) W 10 X) : PSs X (defBody s_law_reach) (tS T W F_law_reach) :=
  (S_cons (S_let' S (be_tup (A_cons (be_tup (A_cons E_str (A_cons E_int A_nil))) (A_cons (be_tup (A_cons E_str (A_cons E_int A_nil))) A_nil)))) (S_cons (S_par2' (o1 := true) (o2 := true) S (N_dictP S.C hd.m_dict (Q_cons (P_of (be_lst (A_cons (be_tup (A_cons (E_var S.C 2) (A_cons (be_lst A_nil) A_nil))) A_nil))) Q_nil)) (N_lst (A_cons (E_var S.C 2) A_nil))) (S_cons (bs_while 100000 S (T_cmp (R_ne S.C) (P_var S.C 4) (P_of (be_lst A_nil))) (S_cons (bs_popAt (i := 5) (j := 4) S rfl (by first | exact Or.inl rfl | exact Or.inr (Or.inl rfl)) (by decide) (by decide) rfl (by first | exact Or.inl rfl | exact Or.inr rfl) E_int rfl rfl (swap_no rfl)) (S_cons (S_for S (I_seq S.C (E_fn (src := srcP 0) S.C (ok_law_turns hd) hd.g_law_turns hd.d_law_turns.kp (sh_law_turns hd) A_nil K_nil)) (G_n S.C 6 (hf := Or.inl (S.C.hfn rfl _))) (S_cons (S_let' S (E_ix S.C (P_of (E_fn (src := srcP 4) S.C (ok_law_parted hd) hd.g_law_parted hd.d_law_parted.kp (sh_law_parted hd) (A_cons (E_var S.C 0) (A_cons (E_var S.C 1) (A_cons (E_var S.C 5) (A_cons (E_var S.C 6) A_nil)))) K_nil)) (P_of E_int))) (S_cons (S_if (PW.pt (bw_and (T_cmp R_isnt (P_var S.C 7) (P_of E_non)) (bw_and1 (T_cmp (R_ninK S.C) (P_var S.C 7) (P_var S.C 3))))) (S_cons (bs_setK S (i := 3) rfl (by first | exact Or.inl rfl | exact Or.inr (Or.inl rfl)) (by decide) (by decide) (E_add S.C (P_of (E_ixK S.C (P_var S.C 3) (P_var S.C 5))) (P_of (be_lst (A_cons (E_var S.C 6) A_nil)))) (E_var S.C 7) (by intro _; rfl) rfl rfl) (S_cons (bs_app S (i := 4) rfl (by first | exact Or.inl rfl | exact Or.inr (Or.inl rfl)) (by decide) (by decide) (E_var S.C 7) rfl rfl) S_nil)) S_nil) S_nil))) S_nil))) (S_cons (S_ret (P_var S.C 3)) S_nil))))
theorem ok_law_reach (hd : HD T Φ ka sI) : OkB T Φ 11 10 2 M_law_reach := by
  unfold OkB; rw [hd.p_law_reach]
  exact FnOk_of (N := N_law_reach) (ps := [("_law_one" : Str), ("_law_other" : Str)]) hd.d_law_reach ⟨rfl, rfl, rfl, by decide, rfl, by decide, by decide⟩ rfl fun W X S => b_law_reach hd S
theorem bn_are_words (hd : HD T Φ ka sI) : Binds T.K (Φ 11).fd (Φ 11).ps [] := by rw [hd.p_are_words]; exact hd.d_are_words.bindsN fun _ _ _ _ _ _ us hl => match us, hl with | [_], _ => rfl
theorem sh_are_words (hd : HD T Φ ka sI) : ShapeOk T (Φ 11).fd (Φ 11).ps 1 [] (srcP 1) := shape_pos (bn_are_words hd) (by rw [hd.p_are_words]; rfl)
theorem b_are_words (hd : HD T Φ ka sI) (S : Sok T N_are_words (defScope s_are_words) W 1 X) : PSs X (defBody s_are_words) (tS T W F_are_words) :=
  (S_cons (S_if (PW.pt (bw_or (bt_not (T_val (E_isi S.C hd.m_isinstance (insAll hd) TyB (Y_b S.C hd.m_tuple) (P_var S.C 0)))) (bw_or1 (bt_not (T_chn R_le R_le (P_of E_int) (P_of (E_bi S.C .len hd.m_len (Q_cons (P_var S.C 0) Q_nil))) (P_of E_int)))))) (S_cons (S_ret (P_of E_bl)) S_nil) S_nil) (S_cons (S_ret (P_of (E_bi S.C .all hd.m_all (Q_cons (P_of (E_lc S.C [(("one" : Str), 1)] (I_seq S.C (E_var S.C 0)) (fun _ C1 => (G_n C1 1)) (fun _ C1 => B_nil) (fun _ C1 => (be_and (E_isi C1 hd.m_isinstance (insAll hd) TyB (Y_b C1 hd.m_str) (P_var C1 1)) (be_one (E_cmp (R_in C1) (P_var C1 1) (P_of (E_gc C1 (gc_WORDS hd))))))))) Q_nil)))) S_nil))
theorem ok_are_words (hd : HD T Φ ka sI) : OkB T Φ 2 11 1 M_are_words := by
  unfold OkB; rw [hd.p_are_words]
  exact FnOk_of (N := N_are_words) (ps := [("value" : Str)]) hd.d_are_words ⟨rfl, rfl, rfl, by decide, rfl, by decide, by decide⟩ rfl fun W X S => b_are_words hd S
theorem bn_is_whole (hd : HD T Φ ka sI) : Binds T.K (Φ 12).fd (Φ 12).ps [] := by rw [hd.p_is_whole]; exact hd.d_is_whole.bindsN fun _ _ _ _ _ _ us hl => match us, hl with | [_, _, _], _ => rfl
theorem sh_is_whole (hd : HD T Φ ka sI) : ShapeOk T (Φ 12).fd (Φ 12).ps 3 [] (srcP 3) := shape_pos (bn_is_whole hd) (by rw [hd.p_is_whole]; rfl)
theorem b_is_whole (hd : HD T Φ ka sI) (S : Sok T N_is_whole (defScope s_is_whole) W 1 X) : PSs X (defBody s_is_whole) (tS T W F_is_whole) :=
  (S_cons (S_ret (P_of (be_and (E_isi S.C hd.m_isinstance (insAll hd) TyB (Y_b S.C hd.m_int) (P_var S.C 0)) (be_and (be_not (E_isi S.C hd.m_isinstance (insAll hd) TyB (Y_b S.C hd.m_bool) (P_var S.C 0))) (be_one (E_chn R_le R_le (P_var S.C 1) (P_var S.C 0) (P_var S.C 2))))))) S_nil)
theorem ok_is_whole (hd : HD T Φ ka sI) : OkB T Φ 2 12 3 M_is_whole := by
  unfold OkB; rw [hd.p_is_whole]
  exact FnOk_of (N := N_is_whole) (ps := [("value" : Str), ("low" : Str), ("high" : Str)]) hd.d_is_whole ⟨rfl, rfl, rfl, by decide, rfl, by decide, by decide⟩ rfl fun W X S => b_is_whole hd S
theorem bn_wrong_part (hd : HD T Φ ka sI) : Binds T.K (Φ 13).fd (Φ 13).ps [] := by rw [hd.p_wrong_part]; exact hd.d_wrong_part.bindsN fun _ _ _ _ _ _ us hl => match us, hl with | [_], _ => rfl
theorem sh_wrong_part (hd : HD T Φ ka sI) : ShapeOk T (Φ 13).fd (Φ 13).ps 1 [] (srcP 1) := shape_pos (bn_wrong_part hd) (by rw [hd.p_wrong_part]; rfl)
theorem b_wrong_part (hd : HD T Φ ka sI) (S : Sok T N_wrong_part (defScope s_wrong_part) W 4 X) : PSs X (defBody s_wrong_part) (tS T W F_wrong_part) :=
  (S_cons (S_let' S (be_lst (A_cons (E_fn (src := srcP 3) S.C (ok_is_whole hd) hd.g_is_whole hd.d_is_whole.kp (sh_is_whole hd) (A_cons (E_ix S.C (P_var S.C 0) (P_of E_int)) (A_cons E_int (A_cons (E_gc S.C (gc_MOST_ASKS hd)) A_nil))) K_nil) (A_cons (E_fn (src := srcP 3) S.C (ok_is_whole hd) hd.g_is_whole hd.d_is_whole.kp (sh_is_whole hd) (A_cons (E_ix S.C (P_var S.C 0) (P_of E_int)) (A_cons E_int (A_cons (E_gc S.C (gc_MOST_TELLS hd)) A_nil))) K_nil) (A_cons (E_fn (src := srcP 1) S.C (ok_are_words hd) hd.g_are_words hd.d_are_words.kp (sh_are_words hd) (A_cons (E_ix S.C (P_var S.C 0) (P_of E_int)) A_nil) K_nil) (A_cons (E_fn (src := srcP 1) S.C (ok_are_words hd) hd.g_are_words hd.d_are_words.kp (sh_are_words hd) (A_cons (E_ix S.C (P_var S.C 0) (P_of E_int)) A_nil) K_nil) A_nil)))))) (S_cons (S_let' S (E_add S.C (P_var S.C 1) (P_of (be_lst (A_cons (E_isi S.C hd.m_isinstance (insAll hd) TyB (Y_b S.C hd.m_bool) (P_of (E_ix S.C (P_var S.C 0) (P_of E_int)))) (A_cons (E_isi S.C hd.m_isinstance (insAll hd) TyB (Y_b S.C hd.m_bool) (P_of (E_ix S.C (P_var S.C 0) (P_of E_int)))) A_nil)))))) (S_cons (S_for S (I_zip S.C hd.m_zip (E_gc S.C (gc_PARTS hd)) (E_var S.C 1)) (G_t2 S.C 2 3 (hf := Or.inl (S.C.hfn rfl _)) (hf2 := Or.inl (S.C.hfn rfl _))) (S_cons (S_if (bt_not (T_val (E_var S.C 3))) (S_cons (S_ret (P_var S.C 2)) S_nil) S_nil) S_nil)) (S_cons (S_ret (P_of E_non)) S_nil))))
theorem ok_wrong_part (hd : HD T Φ ka sI) : OkB T Φ 5 13 1 M_wrong_part := by
  unfold OkB; rw [hd.p_wrong_part]
  exact FnOk_of (N := N_wrong_part) (ps := [("row" : Str)]) hd.d_wrong_part ⟨rfl, rfl, rfl, by decide, rfl, by decide, by decide⟩ rfl fun W X S => b_wrong_part hd S
theorem b_Rule_init (hd : HD T Φ ka sI) (S : Sok T N_Rule_init (defScope s_Rule_init) W 7 X) : PSs X (defBody s_Rule_init) (tS T W F_Rule_init) :=
  (S_cons (S_let' S (be_tup (A_cons (E_var S.C 1) (A_cons (E_var S.C 2) (A_cons (E_var S.C 3) (A_cons (E_var S.C 4) (A_cons (E_var S.C 5) (A_cons (E_var S.C 6) A_nil)))))))) (S_cons (S_let' S (E_fn (src := srcP 1) S.C (ok_wrong_part hd) hd.g_wrong_part hd.d_wrong_part.kp (sh_wrong_part hd) (A_cons (E_var S.C 7) A_nil) K_nil)) (S_cons (S_if (T_cmp R_isnt (P_var S.C 8) (P_of E_non)) (S_cons (bs_raise1 S hd.sup_BadRule (by decide) (by rw [hd.hfl]; rfl) (msg_BadRule hd) (S.C.gl rfl) (S.C.mgs hd.gm_BadRule) (by decide) (E_var S.C 8) rfl) S_nil) S_nil) (S_cons (bs_setf (c := 0) (j := 0) S rfl (Or.inl rfl) (by decide) (by decide) (by rw [hd.hfl]; rfl) (by rw [hd.hfl]; decide) (by rw [hd.hfl]; decide) hd.cl_Rule hd.na_Rule_row (E_var S.C 7) (swap_no rfl)) S_nil))))
theorem ok_Rule_init (hd : HD T Φ ka sI) : OkI T Φ 8 14 0 6 MI_Rule_init := by
  unfold OkI; rw [hd.p_Rule_init]
  exact FnOkI_of (N := N_Rule_init) (ps := [("self" : Str), ("asks" : Str), ("tells" : Str), ("meets" : Str), ("stands" : Str), ("answers" : Str), ("again" : Str)]) hd.d_Rule_init ⟨rfl, rfl, rfl, by decide, rfl, by decide, by decide⟩ rfl (by decide) (by rw [hd.hfl]; rfl) fun z W X S => b_Rule_init (hd.slf z) S
theorem shp_Rule_init_all_ok (hd : HD T Φ ka sI) : IShapeOk T (Φ shp_Rule_init_all.f).fd (Φ shp_Rule_init_all.f).ps shp_Rule_init_all.n shp_Rule_init_all.ks shp_Rule_init_all.src := by
  show IShapeOk T (Φ 14).fd (Φ 14).ps _ _ _; rw [hd.p_Rule_init]
  exact ishape_all hd.d_Rule_init _ (by simp) rfl (fun _ _ _ _ _ _ us ws h1 h2 => match us, h1, ws, h2 with | [_, _, _], _, [_, _, _, _], _ => rfl) (by decide)
theorem bn_law_made (hd : HD T Φ ka sI) : Binds T.K (Φ 15).fd (Φ 15).ps [] := by rw [hd.p_law_made]; exact hd.d_law_made.bindsN fun _ _ _ _ _ _ us hl => match us, hl with | [_], _ => rfl
theorem sh_law_made (hd : HD T Φ ka sI) : ShapeOk T (Φ 15).fd (Φ 15).ps 1 [] (srcP 1) := shape_pos (bn_law_made hd) (by rw [hd.p_law_made]; rfl)
theorem b_law_made (hd : HD T Φ ka sI) (S : Sok T N_law_made (defScope s_law_made) W 10 X) : PSs X (defBody s_law_made) (tS T W F_law_made) :=
  (S_cons (S_ret (P_of (E_mk (sh := shp_Rule_init_all) (n := 2) S.C (ok_Rule_init hd) hd.mk_Rule hd.gm_Rule rfl (shp_Rule_init_all_ok hd) (A_cons (E_ix S.C (P_var S.C 0) (P_of E_int)) (A_cons (E_ix S.C (P_var S.C 0) (P_of E_int)) A_nil)) (K_cons (E_ix S.C (P_var S.C 0) (P_of E_int)) (K_cons (E_ix S.C (P_var S.C 0) (P_of E_int)) (K_cons (E_ix S.C (P_var S.C 0) (P_of E_int)) (K_cons (E_ix S.C (P_var S.C 0) (P_of E_int)) K_nil))))))) S_nil)
theorem ok_law_made (hd : HD T Φ ka sI) : OkB T Φ 11 15 1 M_law_made := by
  unfold OkB; rw [hd.p_law_made]
  exact FnOk_of (N := N_law_made) (ps := [("_law_parts_here" : Str)]) hd.d_law_made ⟨rfl, rfl, rfl, by decide, rfl, by decide, by decide⟩ rfl fun W X S => b_law_made hd S
theorem bn_check_rule (hd : HD T Φ ka sI) : Binds T.K (Φ 16).fd (Φ 16).ps [] := by rw [hd.p_check_rule]; exact hd.d_check_rule.bindsN fun _ _ _ _ _ _ us hl => match us, hl with | [_], _ => rfl
theorem sh_check_rule (hd : HD T Φ ka sI) : ShapeOk T (Φ 16).fd (Φ 16).ps 1 [] (srcP 1) := shape_pos (bn_check_rule hd) (by rw [hd.p_check_rule]; rfl)
theorem b_check_rule (hd : HD T Φ ka sI) (S : Sok T N_check_rule (defScope s_check_rule) W 1 X) : PSs X (defBody s_check_rule) (tS T W F_check_rule) :=
  (S_cons (S_if (bt_not (T_val (E_isi S.C hd.m_isinstance (insAll hd) (tyc_Rule hd) (Y_c S.C hd.gm_Rule) (P_var S.C 0)))) (S_cons (bs_raise0 S hd.sup_BadRule (by rw [hd.hfl]; rfl) (msg0_BadRule hd) (S.C.gl rfl) (S.C.mgs hd.gm_BadRule) (by decide)) S_nil) S_nil) S_nil)
theorem ok_check_rule (hd : HD T Φ ka sI) : OkB T Φ 2 16 1 M_check_rule := by
  unfold OkB; rw [hd.p_check_rule]
  exact FnOk_of (N := N_check_rule) (ps := [("value" : Str)]) hd.d_check_rule ⟨rfl, rfl, rfl, by decide, rfl, by decide, by decide⟩ rfl fun W X S => b_check_rule hd S
theorem bn_check_two (hd : HD T Φ ka sI) : Binds T.K (Φ 17).fd (Φ 17).ps [] := by rw [hd.p_check_two]; exact hd.d_check_two.bindsN fun _ _ _ _ _ _ us hl => match us, hl with | [_, _], _ => rfl
theorem sh_check_two (hd : HD T Φ ka sI) : ShapeOk T (Φ 17).fd (Φ 17).ps 2 [] (srcP 2) := shape_pos (bn_check_two hd) (by rw [hd.p_check_two]; rfl)
theorem b_check_two (hd : HD T Φ ka sI) (S : Sok T N_check_two (defScope s_check_two) W 4 X) : PSs X (defBody s_check_two) (tS T W F_check_two) :=
  (S_cons (S_expr (E_fn (src := srcP 1) S.C (ok_check_rule hd) hd.g_check_rule hd.d_check_rule.kp (sh_check_rule hd) (A_cons (E_var S.C 0) A_nil) K_nil) rfl) (S_cons (S_expr (E_fn (src := srcP 1) S.C (ok_check_rule hd) hd.g_check_rule hd.d_check_rule.kp (sh_check_rule hd) (A_cons (E_var S.C 1) A_nil) K_nil) rfl) S_nil))
theorem ok_check_two (hd : HD T Φ ka sI) : OkB T Φ 5 17 2 M_check_two := by
  unfold OkB; rw [hd.p_check_two]
  exact FnOk_of (N := N_check_two) (ps := [("one" : Str), ("other" : Str)]) hd.d_check_two ⟨rfl, rfl, rfl, by decide, rfl, by decide, by decide⟩ rfl fun W X S => b_check_two hd S
theorem bn_Rule_asks (hd : HD T Φ ka sI) : Binds T.K (Φ 18).fd (Φ 18).ps [] := by rw [hd.p_Rule_asks]; exact hd.d_Rule_asks.bindsN fun _ _ _ _ _ _ us hl => match us, hl with | [_], _ => rfl
theorem sh_Rule_asks (hd : HD T Φ ka sI) : ShapeOk T (Φ 18).fd (Φ 18).ps 1 [] (srcP 1) := shape_pos (bn_Rule_asks hd) (by rw [hd.p_Rule_asks]; rfl)
theorem b_Rule_asks (hd : HD T Φ ka sI) (S : Sok T N_Rule_asks (defScope s_Rule_asks) W 1 X) : PSs X (defBody s_Rule_asks) (tS T W F_Rule_asks) :=
  (S_cons (S_ret (P_of (E_ix S.C (P_of (E_attr (kf := 0) S.C hd.hfl (af_row hd) (ao_row hd) (E_var S.C 0))) (P_of E_int)))) S_nil)
theorem ok_Rule_asks (hd : HD T Φ ka sI) : OkB T Φ 2 18 1 M_Rule_asks := by
  unfold OkB; rw [hd.p_Rule_asks]
  exact FnOk_of (N := N_Rule_asks) (ps := [("self" : Str)]) hd.d_Rule_asks ⟨rfl, rfl, rfl, by decide, rfl, by decide, by decide⟩ rfl fun W X S => b_Rule_asks hd S
theorem af_asks (hd : HD T Φ ka sI) : ∀ c g, (c, some g) ∈ al_asks → OkB T Φ 2 g 1 (MA_asks g) := by
  intro c g h; simp only [al_asks, List.mem_cons, Prod.mk.injEq, List.not_mem_nil, or_false, Option.some.injEq, reduceCtorEq, and_false] at h
  obtain ⟨_, rfl⟩ := h; exact ok_Rule_asks hd
theorem ao_asks (hd : HD T Φ ka sI) : ∀ alt ∈ al_asks, AltOk T Φ ("asks" : Str) alt := by
  intro alt h; simp only [al_asks, List.mem_cons, List.not_mem_nil, or_false] at h
  subst h; obtain ⟨p, hp⟩ := hd.pr_Rule_asks; exact ⟨hd.cl_Rule, p, hp, bn_Rule_asks hd⟩
theorem bn_Rule_tells (hd : HD T Φ ka sI) : Binds T.K (Φ 19).fd (Φ 19).ps [] := by rw [hd.p_Rule_tells]; exact hd.d_Rule_tells.bindsN fun _ _ _ _ _ _ us hl => match us, hl with | [_], _ => rfl
theorem sh_Rule_tells (hd : HD T Φ ka sI) : ShapeOk T (Φ 19).fd (Φ 19).ps 1 [] (srcP 1) := shape_pos (bn_Rule_tells hd) (by rw [hd.p_Rule_tells]; rfl)
theorem b_Rule_tells (hd : HD T Φ ka sI) (S : Sok T N_Rule_tells (defScope s_Rule_tells) W 1 X) : PSs X (defBody s_Rule_tells) (tS T W F_Rule_tells) :=
  (S_cons (S_ret (P_of (E_ix S.C (P_of (E_attr (kf := 0) S.C hd.hfl (af_row hd) (ao_row hd) (E_var S.C 0))) (P_of E_int)))) S_nil)
theorem ok_Rule_tells (hd : HD T Φ ka sI) : OkB T Φ 2 19 1 M_Rule_tells := by
  unfold OkB; rw [hd.p_Rule_tells]
  exact FnOk_of (N := N_Rule_tells) (ps := [("self" : Str)]) hd.d_Rule_tells ⟨rfl, rfl, rfl, by decide, rfl, by decide, by decide⟩ rfl fun W X S => b_Rule_tells hd S
theorem af_tells (hd : HD T Φ ka sI) : ∀ c g, (c, some g) ∈ al_tells → OkB T Φ 2 g 1 (MA_tells g) := by
  intro c g h; simp only [al_tells, List.mem_cons, Prod.mk.injEq, List.not_mem_nil, or_false, Option.some.injEq, reduceCtorEq, and_false] at h
  obtain ⟨_, rfl⟩ := h; exact ok_Rule_tells hd
theorem ao_tells (hd : HD T Φ ka sI) : ∀ alt ∈ al_tells, AltOk T Φ ("tells" : Str) alt := by
  intro alt h; simp only [al_tells, List.mem_cons, List.not_mem_nil, or_false] at h
  subst h; obtain ⟨p, hp⟩ := hd.pr_Rule_tells; exact ⟨hd.cl_Rule, p, hp, bn_Rule_tells hd⟩
theorem bn_Rule_again (hd : HD T Φ ka sI) : Binds T.K (Φ 20).fd (Φ 20).ps [] := by rw [hd.p_Rule_again]; exact hd.d_Rule_again.bindsN fun _ _ _ _ _ _ us hl => match us, hl with | [_], _ => rfl
theorem sh_Rule_again (hd : HD T Φ ka sI) : ShapeOk T (Φ 20).fd (Φ 20).ps 1 [] (srcP 1) := shape_pos (bn_Rule_again hd) (by rw [hd.p_Rule_again]; rfl)
theorem b_Rule_again (hd : HD T Φ ka sI) (S : Sok T N_Rule_again (defScope s_Rule_again) W 1 X) : PSs X (defBody s_Rule_again) (tS T W F_Rule_again) :=
  (S_cons (S_ret (P_of (E_ix S.C (P_of (E_attr (kf := 0) S.C hd.hfl (af_row hd) (ao_row hd) (E_var S.C 0))) (P_of E_int)))) S_nil)
theorem ok_Rule_again (hd : HD T Φ ka sI) : OkB T Φ 2 20 1 M_Rule_again := by
  unfold OkB; rw [hd.p_Rule_again]
  exact FnOk_of (N := N_Rule_again) (ps := [("self" : Str)]) hd.d_Rule_again ⟨rfl, rfl, rfl, by decide, rfl, by decide, by decide⟩ rfl fun W X S => b_Rule_again hd S
theorem af_again (hd : HD T Φ ka sI) : ∀ c g, (c, some g) ∈ al_again → OkB T Φ 2 g 1 (MA_again g) := by
  intro c g h; simp only [al_again, List.mem_cons, Prod.mk.injEq, List.not_mem_nil, or_false, Option.some.injEq, reduceCtorEq, and_false] at h
  obtain ⟨_, rfl⟩ := h; exact ok_Rule_again hd
theorem ao_again (hd : HD T Φ ka sI) : ∀ alt ∈ al_again, AltOk T Φ ("again" : Str) alt := by
  intro alt h; simp only [al_again, List.mem_cons, List.not_mem_nil, or_false] at h
  subst h; obtain ⟨p, hp⟩ := hd.pr_Rule_again; exact ⟨hd.cl_Rule, p, hp, bn_Rule_again hd⟩
theorem bn_own (hd : HD T Φ ka sI) : Binds T.K (Φ 21).fd (Φ 21).ps [] := by rw [hd.p_own]; exact hd.d_own.bindsN fun _ _ _ _ _ _ us hl => match us, hl with | [_, _, _], _ => rfl
theorem sh_own (hd : HD T Φ ka sI) : ShapeOk T (Φ 21).fd (Φ 21).ps 3 [] (srcP 3) := shape_pos (bn_own hd) (by rw [hd.p_own]; rfl)
theorem b_own (hd : HD T Φ ka sI) (S : Sok T N_own (defScope s_own) W 4 X) : PSs X (defBody s_own) (tS T W F_own) :=
  (S_cons (S_if (T_cmp (R_eq S.C) (P_var S.C 2) (P_of E_str)) (S_cons (S_ret (P_of (be_ite (T_cmp (R_eq S.C) (P_of (E_ix S.C (P_var S.C 1) (P_of E_int))) (P_of E_str)) (be_tup (A_cons E_str (A_cons (E_attr (kf := 2) S.C hd.hfl (af_asks hd) (ao_asks hd) (E_var S.C 0)) (A_cons (E_ix S.C (P_var S.C 1) (P_of E_int)) A_nil)))) E_non))) S_nil) S_nil) (S_cons (S_if (T_cmp (R_eq S.C) (P_var S.C 2) (P_of E_str)) (S_cons (S_ret (P_of (be_ite (PW.pt (bw_and (T_cmp (R_eq S.C) (P_of (E_ix S.C (P_var S.C 1) (P_of E_int))) (P_of E_str)) (bw_and1 (T_cmp R_gt (P_of (E_ix S.C (P_var S.C 1) (P_of E_int))) (P_of E_int))))) (be_tup (A_cons E_str (A_cons (E_sub (P_of (E_ix S.C (P_var S.C 1) (P_of E_int))) (P_of E_int)) (A_cons (E_ix S.C (P_var S.C 1) (P_of E_int)) A_nil)))) E_non))) S_nil) S_nil) (S_cons (S_if (T_cmp (R_eq S.C) (P_var S.C 2) (P_of E_str)) (S_cons (S_ret (P_of (be_ite (PW.pt (bw_and (T_cmp (R_eq S.C) (P_of (E_ix S.C (P_var S.C 1) (P_of E_int))) (P_of E_str)) (bw_and1 (T_cmp (R_eq S.C) (P_of (E_ix S.C (P_var S.C 1) (P_of E_int))) (P_of E_int))))) (be_tup (A_cons E_str (A_cons (E_attr (kf := 2) S.C hd.hfl (af_tells hd) (ao_tells hd) (E_var S.C 0)) (A_cons E_int A_nil)))) E_non))) S_nil) S_nil) (S_cons (S_if (T_cmp (R_eq S.C) (P_var S.C 2) (P_of E_str)) (S_cons (S_let' S (be_and (E_cmp (R_eq S.C) (P_of (E_ix S.C (P_var S.C 1) (P_of E_int))) (P_of E_str)) (be_one (be_or (E_cmp R_gt (P_of (E_ix S.C (P_var S.C 1) (P_of E_int))) (P_of E_int)) (be_one (E_attr (kf := 2) S.C hd.hfl (af_again hd) (ao_again hd) (E_var S.C 0))))))) (S_cons (S_ret (P_of (be_ite (T_val (E_var S.C 3)) (be_tup (A_cons E_str (A_cons (E_bi S.C .max2 hd.m_max (Q_cons (P_of (E_sub (P_of (E_ix S.C (P_var S.C 1) (P_of E_int))) (P_of E_int))) (Q_cons (P_of E_int) Q_nil))) (A_cons (E_ix S.C (P_var S.C 1) (P_of E_int)) A_nil)))) E_non))) S_nil)) S_nil) (S_cons (S_if (T_cmp (R_eq S.C) (P_of (E_ix S.C (P_var S.C 1) (P_of E_int))) (P_of E_str)) (S_cons (S_ret (P_of E_non)) S_nil) S_nil) (S_cons (S_ret (P_of (be_tup (A_cons E_str (A_cons (be_ite (T_cmp (R_eq S.C) (P_of (E_ix S.C (P_var S.C 1) (P_of E_int))) (P_of E_str)) (E_ix S.C (P_var S.C 1) (P_of E_int)) E_int) A_nil))))) S_nil))))))
theorem ok_own (hd : HD T Φ ka sI) : OkB T Φ 5 21 3 M_own := by
  unfold OkB; rw [hd.p_own]
  exact FnOk_of (N := N_own) (ps := [("rule" : Str), ("state" : Str), ("word" : Str)]) hd.d_own ⟨rfl, rfl, rfl, by decide, rfl, by decide, by decide⟩ rfl fun W X S => b_own hd S
theorem bn_gives_way (hd : HD T Φ ka sI) : Binds T.K (Φ 22).fd (Φ 22).ps [] := by rw [hd.p_gives_way]; exact hd.d_gives_way.bindsN fun _ _ _ _ _ _ us hl => match us, hl with | [_, _], _ => rfl
theorem sh_gives_way (hd : HD T Φ ka sI) : ShapeOk T (Φ 22).fd (Φ 22).ps 2 [] (srcP 2) := shape_pos (bn_gives_way hd) (by rw [hd.p_gives_way]; rfl)
theorem b_gives_way (hd : HD T Φ ka sI) (S : Sok T N_gives_way (defScope s_gives_way) W 1 X) : PSs X (defBody s_gives_way) (tS T W F_gives_way) :=
  (S_cons (S_ret (P_of (be_or (E_cmp (R_eq S.C) (P_var S.C 0) (P_of E_str)) (be_one (be_and (E_cmp (R_eq S.C) (P_var S.C 0) (P_of E_str)) (be_one (E_var S.C 1))))))) S_nil)
theorem ok_gives_way (hd : HD T Φ ka sI) : OkB T Φ 2 22 2 M_gives_way := by
  unfold OkB; rw [hd.p_gives_way]
  exact FnOk_of (N := N_gives_way) (ps := [("word" : Str), ("is_lesser" : Str)]) hd.d_gives_way ⟨rfl, rfl, rfl, by decide, rfl, by decide, by decide⟩ rfl fun W X S => b_gives_way hd S
theorem bn_Rule_meets (hd : HD T Φ ka sI) : Binds T.K (Φ 23).fd (Φ 23).ps [] := by rw [hd.p_Rule_meets]; exact hd.d_Rule_meets.bindsN fun _ _ _ _ _ _ us hl => match us, hl with | [_], _ => rfl
theorem sh_Rule_meets (hd : HD T Φ ka sI) : ShapeOk T (Φ 23).fd (Φ 23).ps 1 [] (srcP 1) := shape_pos (bn_Rule_meets hd) (by rw [hd.p_Rule_meets]; rfl)
theorem b_Rule_meets (hd : HD T Φ ka sI) (S : Sok T N_Rule_meets (defScope s_Rule_meets) W 1 X) : PSs X (defBody s_Rule_meets) (tS T W F_Rule_meets) :=
  (S_cons (S_ret (P_of (E_ix S.C (P_of (E_attr (kf := 0) S.C hd.hfl (af_row hd) (ao_row hd) (E_var S.C 0))) (P_of E_int)))) S_nil)
theorem ok_Rule_meets (hd : HD T Φ ka sI) : OkB T Φ 2 23 1 M_Rule_meets := by
  unfold OkB; rw [hd.p_Rule_meets]
  exact FnOk_of (N := N_Rule_meets) (ps := [("self" : Str)]) hd.d_Rule_meets ⟨rfl, rfl, rfl, by decide, rfl, by decide, by decide⟩ rfl fun W X S => b_Rule_meets hd S
theorem af_meets (hd : HD T Φ ka sI) : ∀ c g, (c, some g) ∈ al_meets → OkB T Φ 2 g 1 (MA_meets g) := by
  intro c g h; simp only [al_meets, List.mem_cons, Prod.mk.injEq, List.not_mem_nil, or_false, Option.some.injEq, reduceCtorEq, and_false] at h
  obtain ⟨_, rfl⟩ := h; exact ok_Rule_meets hd
theorem ao_meets (hd : HD T Φ ka sI) : ∀ alt ∈ al_meets, AltOk T Φ ("meets" : Str) alt := by
  intro alt h; simp only [al_meets, List.mem_cons, List.not_mem_nil, or_false] at h
  subst h; obtain ⟨p, hp⟩ := hd.pr_Rule_meets; exact ⟨hd.cl_Rule, p, hp, bn_Rule_meets hd⟩
theorem bn_Rule_stands (hd : HD T Φ ka sI) : Binds T.K (Φ 24).fd (Φ 24).ps [] := by rw [hd.p_Rule_stands]; exact hd.d_Rule_stands.bindsN fun _ _ _ _ _ _ us hl => match us, hl with | [_], _ => rfl
theorem sh_Rule_stands (hd : HD T Φ ka sI) : ShapeOk T (Φ 24).fd (Φ 24).ps 1 [] (srcP 1) := shape_pos (bn_Rule_stands hd) (by rw [hd.p_Rule_stands]; rfl)
theorem b_Rule_stands (hd : HD T Φ ka sI) (S : Sok T N_Rule_stands (defScope s_Rule_stands) W 1 X) : PSs X (defBody s_Rule_stands) (tS T W F_Rule_stands) :=
  (S_cons (S_ret (P_of (E_ix S.C (P_of (E_attr (kf := 0) S.C hd.hfl (af_row hd) (ao_row hd) (E_var S.C 0))) (P_of E_int)))) S_nil)
theorem ok_Rule_stands (hd : HD T Φ ka sI) : OkB T Φ 2 24 1 M_Rule_stands := by
  unfold OkB; rw [hd.p_Rule_stands]
  exact FnOk_of (N := N_Rule_stands) (ps := [("self" : Str)]) hd.d_Rule_stands ⟨rfl, rfl, rfl, by decide, rfl, by decide, by decide⟩ rfl fun W X S => b_Rule_stands hd S
theorem af_stands (hd : HD T Φ ka sI) : ∀ c g, (c, some g) ∈ al_stands → OkB T Φ 2 g 1 (MA_stands g) := by
  intro c g h; simp only [al_stands, List.mem_cons, Prod.mk.injEq, List.not_mem_nil, or_false, Option.some.injEq, reduceCtorEq, and_false] at h
  obtain ⟨_, rfl⟩ := h; exact ok_Rule_stands hd
theorem ao_stands (hd : HD T Φ ka sI) : ∀ alt ∈ al_stands, AltOk T Φ ("stands" : Str) alt := by
  intro alt h; simp only [al_stands, List.mem_cons, List.not_mem_nil, or_false] at h
  subst h; obtain ⟨p, hp⟩ := hd.pr_Rule_stands; exact ⟨hd.cl_Rule, p, hp, bn_Rule_stands hd⟩
theorem bn_heard (hd : HD T Φ ka sI) : Binds T.K (Φ 25).fd (Φ 25).ps [] := by rw [hd.p_heard]; exact hd.d_heard.bindsN fun _ _ _ _ _ _ us hl => match us, hl with | [_, _, _, _], _ => rfl
theorem sh_heard (hd : HD T Φ ka sI) : ShapeOk T (Φ 25).fd (Φ 25).ps 4 [] (srcP 4) := shape_pos (bn_heard hd) (by rw [hd.p_heard]; rfl)
theorem b_heard (hd : HD T Φ ka sI) (S : Sok T N_heard (defScope s_heard) W 4 X) : PSs X (defBody s_heard) (tS T W F_heard) :=
  (S_cons (S_if (PW.pt (bw_and (T_cmp (R_eq S.C) (P_of (E_ix S.C (P_var S.C 1) (P_of E_int))) (P_of E_str)) (bw_and1 (T_cmp (R_eq S.C) (P_var S.C 2) (P_of E_str))))) (S_cons (S_if (T_val (E_fn (src := srcP 2) S.C (ok_gives_way hd) hd.g_gives_way hd.d_gives_way.kp (sh_gives_way hd) (A_cons (E_ix S.C (P_of (E_attr (kf := 2) S.C hd.hfl (af_meets hd) (ao_meets hd) (E_var S.C 0))) (P_of (E_ix S.C (P_var S.C 1) (P_of E_int)))) (A_cons (E_var S.C 3) A_nil)) K_nil)) (S_cons (S_ret (P_of (be_tup (A_cons (be_tup (A_cons E_str (A_cons (E_bi S.C .min2 hd.m_min (Q_cons (P_of (E_add S.C (P_of (E_ix S.C (P_var S.C 1) (P_of E_int))) (P_of E_int))) (Q_cons (P_of (E_sub (P_of (E_bi S.C .len hd.m_len (Q_cons (P_of (E_attr (kf := 2) S.C hd.hfl (af_meets hd) (ao_meets hd) (E_var S.C 0))) Q_nil))) (P_of E_int))) Q_nil))) A_nil))) (A_cons E_bl A_nil))))) S_nil) S_nil) (S_cons (S_ret (P_of (be_tup (A_cons (E_var S.C 1) (A_cons E_bl A_nil))))) S_nil)) S_nil) (S_cons (S_if (T_cmp (R_eq S.C) (P_of (E_ix S.C (P_var S.C 1) (P_of E_int))) (P_of E_str)) (S_cons (S_ret (P_of (be_tup (A_cons (be_tup (A_cons E_str (A_cons (E_ix S.C (P_var S.C 1) (P_of E_int)) A_nil))) (A_cons E_bl A_nil))))) S_nil) S_nil) (S_cons (S_if (PW.pt (bw_and (T_cmp (R_eq S.C) (P_of (E_ix S.C (P_var S.C 1) (P_of E_int))) (P_of E_str)) (bw_and1 (T_cmp (R_eq S.C) (P_var S.C 2) (P_of E_str))))) (S_cons (S_if (T_val (E_fn (src := srcP 2) S.C (ok_gives_way hd) hd.g_gives_way hd.d_gives_way.kp (sh_gives_way hd) (A_cons (E_ix S.C (P_of (E_attr (kf := 2) S.C hd.hfl (af_stands hd) (ao_stands hd) (E_var S.C 0))) (P_of (E_ix S.C (P_var S.C 1) (P_of E_int)))) (A_cons (E_var S.C 3) A_nil)) K_nil)) (S_cons (S_ret (P_of (be_tup (A_cons (be_tup (A_cons E_str (A_cons E_int A_nil))) (A_cons E_bl A_nil))))) S_nil) S_nil) (S_cons (S_ret (P_of (be_tup (A_cons (be_tup (A_cons E_str (A_cons (E_bi S.C .max2 hd.m_max (Q_cons (P_of (E_ix S.C (P_var S.C 1) (P_of E_int))) (Q_cons (P_of E_int) Q_nil))) (A_cons (E_bi S.C .min2 hd.m_min (Q_cons (P_of (E_add S.C (P_of (E_ix S.C (P_var S.C 1) (P_of E_int))) (P_of E_int))) (Q_cons (P_of (E_sub (P_of (E_bi S.C .len hd.m_len (Q_cons (P_of (E_attr (kf := 2) S.C hd.hfl (af_stands hd) (ao_stands hd) (E_var S.C 0))) Q_nil))) (P_of E_int))) Q_nil))) A_nil)))) (A_cons E_bl A_nil))))) S_nil)) S_nil) (S_cons (S_ret (P_of (be_tup (A_cons (E_var S.C 1) (A_cons E_bl A_nil))))) S_nil))))
theorem ok_heard (hd : HD T Φ ka sI) : OkB T Φ 5 25 4 M_heard := by
  unfold OkB; rw [hd.p_heard]
  exact FnOk_of (N := N_heard) (ps := [("rule" : Str), ("state" : Str), ("letter" : Str), ("is_lesser" : Str)]) hd.d_heard ⟨rfl, rfl, rfl, by decide, rfl, by decide, by decide⟩ rfl fun W X S => b_heard hd S
theorem bn_Rule_answers (hd : HD T Φ ka sI) : Binds T.K (Φ 26).fd (Φ 26).ps [] := by rw [hd.p_Rule_answers]; exact hd.d_Rule_answers.bindsN fun _ _ _ _ _ _ us hl => match us, hl with | [_], _ => rfl
theorem sh_Rule_answers (hd : HD T Φ ka sI) : ShapeOk T (Φ 26).fd (Φ 26).ps 1 [] (srcP 1) := shape_pos (bn_Rule_answers hd) (by rw [hd.p_Rule_answers]; rfl)
theorem b_Rule_answers (hd : HD T Φ ka sI) (S : Sok T N_Rule_answers (defScope s_Rule_answers) W 1 X) : PSs X (defBody s_Rule_answers) (tS T W F_Rule_answers) :=
  (S_cons (S_ret (P_of (E_ix S.C (P_of (E_attr (kf := 0) S.C hd.hfl (af_row hd) (ao_row hd) (E_var S.C 0))) (P_of E_int)))) S_nil)
theorem ok_Rule_answers (hd : HD T Φ ka sI) : OkB T Φ 2 26 1 M_Rule_answers := by
  unfold OkB; rw [hd.p_Rule_answers]
  exact FnOk_of (N := N_Rule_answers) (ps := [("self" : Str)]) hd.d_Rule_answers ⟨rfl, rfl, rfl, by decide, rfl, by decide, by decide⟩ rfl fun W X S => b_Rule_answers hd S
theorem af_answers (hd : HD T Φ ka sI) : ∀ c g, (c, some g) ∈ al_answers → OkB T Φ 2 g 1 (MA_answers g) := by
  intro c g h; simp only [al_answers, List.mem_cons, Prod.mk.injEq, List.not_mem_nil, or_false, Option.some.injEq, reduceCtorEq, and_false] at h
  obtain ⟨_, rfl⟩ := h; exact ok_Rule_answers hd
theorem ao_answers (hd : HD T Φ ka sI) : ∀ alt ∈ al_answers, AltOk T Φ ("answers" : Str) alt := by
  intro alt h; simp only [al_answers, List.mem_cons, List.not_mem_nil, or_false] at h
  subst h; obtain ⟨p, hp⟩ := hd.pr_Rule_answers; exact ⟨hd.cl_Rule, p, hp, bn_Rule_answers hd⟩
theorem bn_replies (hd : HD T Φ ka sI) : Binds T.K (Φ 27).fd (Φ 27).ps [] := by rw [hd.p_replies]; exact hd.d_replies.bindsN fun _ _ _ _ _ _ us hl => match us, hl with | [_, _, _], _ => rfl
theorem sh_replies (hd : HD T Φ ka sI) : ShapeOk T (Φ 27).fd (Φ 27).ps 3 [] (srcP 3) := shape_pos (bn_replies hd) (by rw [hd.p_replies]; rfl)
theorem b_replies (hd : HD T Φ ka sI) (S : Sok T N_replies (defScope s_replies) W 4 X) : PSs X (defBody s_replies) (tS T W F_replies) :=
  (S_cons (S_if (PW.pt (bw_and (T_cmp (R_eq S.C) (P_of (E_ix S.C (P_var S.C 1) (P_of E_int))) (P_of E_str)) (bw_and1 (T_val (E_fn (src := srcP 2) S.C (ok_gives_way hd) hd.g_gives_way hd.d_gives_way.kp (sh_gives_way hd) (A_cons (E_ix S.C (P_of (E_attr (kf := 2) S.C hd.hfl (af_meets hd) (ao_meets hd) (E_var S.C 0))) (P_of (E_ix S.C (P_var S.C 1) (P_of E_int)))) (A_cons (E_var S.C 2) A_nil)) K_nil))))) (S_cons (S_ret (P_of E_bl)) S_nil) S_nil) (S_cons (S_ret (P_of (be_and (E_attr (kf := 2) S.C hd.hfl (af_answers hd) (ao_answers hd) (E_var S.C 0)) (be_one (E_cmp (R_ne S.C) (P_of (E_ix S.C (P_var S.C 1) (P_of E_int))) (P_of E_str)))))) S_nil))
theorem ok_replies (hd : HD T Φ ka sI) : OkB T Φ 5 27 3 M_replies := by
  unfold OkB; rw [hd.p_replies]
  exact FnOk_of (N := N_replies) (ps := [("rule" : Str), ("state" : Str), ("is_lesser" : Str)]) hd.d_replies ⟨rfl, rfl, rfl, by decide, rfl, by decide, by decide⟩ rfl fun W X S => b_replies hd S
theorem bn_turned (hd : HD T Φ ka sI) : Binds T.K (Φ 28).fd (Φ 28).ps [] := by rw [hd.p_turned]; exact hd.d_turned.bindsN fun _ _ _ _ _ _ us hl => match us, hl with | [_, _, _], _ => rfl
theorem sh_turned (hd : HD T Φ ka sI) : ShapeOk T (Φ 28).fd (Φ 28).ps 3 [] (srcP 3) := shape_pos (bn_turned hd) (by rw [hd.p_turned]; rfl)
theorem b_turned (hd : HD T Φ ka sI) (S : Sok T N_turned (defScope s_turned) W 7 X) : PSs X (defBody s_turned) (tS T W F_turned) :=
  (S_cons (S_tgt' S (E_var S.C 2) (G_t2 S.C 3 4 (hf := Or.inl (S.C.hfn rfl _)) (hf2 := Or.inl (S.C.hfn rfl _)))) (S_cons (S_if (T_cmp R_is (P_var S.C 4) (P_of E_non)) (S_cons (S_let' S (E_fn (src := srcP 3) S.C (ok_own hd) hd.g_own hd.d_own.kp (sh_own hd) (A_cons (E_var S.C 0) (A_cons (E_var S.C 1) (A_cons (E_var S.C 3) A_nil))) K_nil)) (S_cons (S_ret (P_of (be_ite (T_cmp R_is (P_var S.C 5) (P_of E_non)) E_non (be_tup (A_cons (E_var S.C 5) (A_cons (be_tup (A_cons (E_ix S.C (P_var S.C 5) (P_of E_int)) (A_cons E_bl A_nil))) A_nil)))))) S_nil)) S_nil) (S_cons (S_if (PW.pt (bw_or (T_cmp (R_eq S.C) (P_of (E_ix S.C (P_var S.C 1) (P_of E_int))) (P_of E_str)) (bw_or1 (PW.pt (bw_and (T_cmp (R_eq S.C) (P_var S.C 3) (P_of E_str)) (bw_and1 (T_cmp (R_ne S.C) (P_of (E_ix S.C (P_var S.C 1) (P_of E_int))) (P_of E_str)))))))) (S_cons (S_ret (P_of E_non)) S_nil) S_nil) (S_cons (S_let' S (E_ix S.C (P_of (E_fn (src := srcP 4) S.C (ok_heard hd) hd.g_heard hd.d_heard.kp (sh_heard hd) (A_cons (E_var S.C 0) (A_cons (E_var S.C 1) (A_cons (E_var S.C 3) (A_cons (E_cmp (R_eq S.C) (P_var S.C 4) (P_of E_str)) A_nil)))) K_nil)) (P_of E_int))) (S_cons (S_ret (P_of (be_tup (A_cons (E_var S.C 5) (A_cons (be_tup (A_cons (E_ix S.C (P_var S.C 5) (P_of E_int)) (A_cons (be_and (E_cmp (R_eq S.C) (P_var S.C 3) (P_of E_str)) (be_one (E_fn (src := srcP 3) S.C (ok_replies hd) hd.g_replies hd.d_replies.kp (sh_replies hd) (A_cons (E_var S.C 0) (A_cons (E_var S.C 1) (A_cons (E_cmp (R_eq S.C) (P_var S.C 4) (P_of E_str)) A_nil))) K_nil))) A_nil))) A_nil))))) S_nil)))))
theorem ok_turned (hd : HD T Φ ka sI) : OkB T Φ 8 28 3 M_turned := by
  unfold OkB; rw [hd.p_turned]
  exact FnOk_of (N := N_turned) (ps := [("rule" : Str), ("state" : Str), ("turn" : Str)]) hd.d_turned ⟨rfl, rfl, rfl, by decide, rfl, by decide, by decide⟩ rfl fun W X S => b_turned hd S
theorem bn_is_parted (hd : HD T Φ ka sI) : Binds T.K (Φ 29).fd (Φ 29).ps [] := by rw [hd.p_is_parted]; exact hd.d_is_parted.bindsN fun _ _ _ _ _ _ us hl => match us, hl with | [_, _], _ => rfl
theorem sh_is_parted (hd : HD T Φ ka sI) : ShapeOk T (Φ 29).fd (Φ 29).ps 2 [] (srcP 2) := shape_pos (bn_is_parted hd) (by rw [hd.p_is_parted]; rfl)
theorem b_is_parted (hd : HD T Φ ka sI) (S : Sok T N_is_parted (defScope s_is_parted) W 1 X) : PSs X (defBody s_is_parted) (tS T W F_is_parted) :=
  (S_cons (S_if (PW.pt (bw_or (T_cmp R_is (P_var S.C 0) (P_of E_non)) (bw_or1 (T_cmp R_is (P_var S.C 1) (P_of E_non))))) (S_cons (S_ret (P_of (be_or (E_cmp R_isnt (P_var S.C 0) (P_of E_non)) (be_one (E_cmp R_isnt (P_var S.C 1) (P_of E_non)))))) S_nil) S_nil) (S_cons (S_ret (P_of (E_cmp (R_ne S.C) (P_of (E_ix S.C (P_var S.C 0) (P_of E_int))) (P_of (E_ix S.C (P_var S.C 1) (P_of E_int)))))) S_nil))
theorem ok_is_parted (hd : HD T Φ ka sI) : OkB T Φ 2 29 2 M_is_parted := by
  unfold OkB; rw [hd.p_is_parted]
  exact FnOk_of (N := N_is_parted) (ps := [("first" : Str), ("second" : Str)]) hd.d_is_parted ⟨rfl, rfl, rfl, by decide, rfl, by decide, by decide⟩ rfl fun W X S => b_is_parted hd S
theorem bn_Alike_shows (hd : HD T Φ ka sI) : Binds T.K (Φ 30).fd (Φ 30).ps [] := by rw [hd.p_Alike_shows]; exact hd.d_Alike_shows.bindsN fun _ _ _ _ _ _ us hl => match us, hl with | [_, _, _], _ => rfl
theorem sh_Alike_shows (hd : HD T Φ ka sI) : ShapeOk T (Φ 30).fd (Φ 30).ps 3 [] (srcP 3) := shape_pos (bn_Alike_shows hd) (by rw [hd.p_Alike_shows]; rfl)
theorem b_Alike_shows (hd : HD T Φ ka sI) (S : Sok T N_Alike_shows (defScope s_Alike_shows) W 10 X) : PSs X (defBody s_Alike_shows) (tS T W F_Alike_shows) :=
  (S_cons (S_expr (E_fn (src := srcP 2) S.C (ok_check_two hd) hd.g_check_two hd.d_check_two.kp (sh_check_two hd) (A_cons (E_var S.C 1) (A_cons (E_var S.C 2) A_nil)) K_nil) rfl) (S_cons (S_let' S (E_dictP S.C hd.m_dict (Q_cons (P_of (E_lc S.C [(("both" : Str), 4)] (I_seq S.C (E_attr (kf := 0) S.C hd.hfl (af_legs hd) (ao_legs hd) (E_var S.C 0))) (fun _ C1 => (G_n C1 4)) (fun _ C1 => B_nil) (fun _ C1 => (be_tup (A_cons (E_var C1 4) (A_cons E_bl A_nil)))))) Q_nil))) (S_cons (S_if (T_cmp (R_ninK S.C) (P_of (be_tup (A_cons (be_tup (A_cons E_str (A_cons E_int A_nil))) (A_cons (be_tup (A_cons E_str (A_cons E_int A_nil))) A_nil)))) (P_var S.C 3)) (S_cons (S_ret (P_of E_bl)) S_nil) S_nil) (S_cons (S_for S (I_keys S.C (E_var S.C 3)) (G_n S.C 4 (hf := Or.inl (S.C.hfn rfl _))) (S_cons (S_for S (I_seq S.C (E_gc S.C (gc_TURNS hd))) (G_n S.C 5 (hf := Or.inl (S.C.hfn rfl _))) (S_cons (S_par2 S (E_fn (src := srcP 3) S.C (ok_turned hd) hd.g_turned hd.d_turned.kp (sh_turned hd) (A_cons (E_var S.C 1) (A_cons (E_ix S.C (P_var S.C 4) (P_of E_int)) (A_cons (E_var S.C 5) A_nil))) K_nil) (E_fn (src := srcP 3) S.C (ok_turned hd) hd.g_turned hd.d_turned.kp (sh_turned hd) (A_cons (E_var S.C 2) (A_cons (E_ix S.C (P_var S.C 4) (P_of E_int)) (A_cons (E_var S.C 5) A_nil))) K_nil)) (S_cons (S_if (T_val (E_fn (src := srcP 2) S.C (ok_is_parted hd) hd.g_is_parted hd.d_is_parted.kp (sh_is_parted hd) (A_cons (E_var S.C 6) (A_cons (E_var S.C 7) A_nil)) K_nil)) (S_cons (S_ret (P_of E_bl)) S_nil) S_nil) (S_cons (S_if (PW.pt (bw_and (T_cmp R_isnt (P_var S.C 6) (P_of E_non)) (bw_and1 (T_cmp (R_ninK S.C) (P_of (be_tup (A_cons (E_ix S.C (P_var S.C 6) (P_of E_int)) (A_cons (E_ix S.C (P_var S.C 7) (P_of E_int)) A_nil)))) (P_var S.C 3))))) (S_cons (S_ret (P_of E_bl)) S_nil) S_nil) S_nil)))) S_nil)) (S_cons (S_ret (P_of E_bl)) S_nil)))))
theorem ok_Alike_shows (hd : HD T Φ ka sI) : OkB T Φ 11 30 3 M_Alike_shows := by
  unfold OkB; rw [hd.p_Alike_shows]
  exact FnOk_of (N := N_Alike_shows) (ps := [("self" : Str), ("one" : Str), ("other" : Str)]) hd.d_Alike_shows ⟨rfl, rfl, rfl, by decide, rfl, by decide, by decide⟩ rfl fun W X S => b_Alike_shows hd S
theorem mf_Alike_shows (hd : HD T Φ ka sI) : ∀ c s, (c, s) ∈ ma_Alike_shows → OkB T Φ 11 s.f s.src.length M_Alike_shows := by
  intro c s h; simp only [ma_Alike_shows, List.mem_cons, List.not_mem_nil, or_false, Prod.mk.injEq] at h
  obtain ⟨_, rfl⟩ := h; exact ok_Alike_shows hd
theorem mo_Alike_shows (hd : HD T Φ ka sI) : ∀ alt ∈ ma_Alike_shows, MAltOk T Φ ("shows" : Str) [] alt := by
  intro alt h; simp only [ma_Alike_shows, List.mem_cons, List.not_mem_nil, or_false] at h
  subst h; exact ⟨hd.cl_Alike, hd.me_Alike_shows, by show ∀ vs : List V, ((T.flds 2).zip vs).lookup _ = none; rw [hd.hfl]; exact zip_no (by decide), sh_Alike_shows hd, rfl⟩
theorem bn_Alike_init (hd : HD T Φ ka sI) : Binds T.K (Φ 31).fd (Φ 31).ps [] := by rw [hd.p_Alike_init]; exact hd.d_Alike_init.bindsN fun _ _ _ _ _ _ us hl => match us, hl with | [_, _], _ => rfl
theorem sh_Alike_init (hd : HD T Φ ka sI) : ShapeOk T (Φ 31).fd (Φ 31).ps 2 [] (srcP 2) := shape_pos (bn_Alike_init hd) (by rw [hd.p_Alike_init]; rfl)
theorem b_Alike_init (hd : HD T Φ ka sI) (S : Sok T N_Alike_init (defScope s_Alike_init) W 1 X) : PSs X (defBody s_Alike_init) (tS T W F_Alike_init) :=
  (S_cons (bs_setf (c := 2) (j := 0) S rfl (Or.inl rfl) (by decide) (by decide) (by rw [hd.hfl]; rfl) (by rw [hd.hfl]; decide) (by rw [hd.hfl]; decide) hd.cl_Alike hd.na_Alike_legs (E_bi S.C .list hd.m_list (Q_cons (P_var S.C 1) Q_nil)) (swap_no rfl)) S_nil)
theorem ok_Alike_init (hd : HD T Φ ka sI) : OkI T Φ 2 31 2 1 MI_Alike_init := by
  unfold OkI; rw [hd.p_Alike_init]
  exact FnOkI_of (N := N_Alike_init) (ps := [("self" : Str), ("legs" : Str)]) hd.d_Alike_init ⟨rfl, rfl, rfl, by decide, rfl, by decide, by decide⟩ rfl (by decide) (by rw [hd.hfl]; rfl) fun z W X S => b_Alike_init (hd.slf z) S
theorem okc_Alike_init (hd : HD T Φ ka sI) : FnOk T.prog T.w T.K T.mg T.base (L2.CX T.prog T.w) 2 (Φ 31).addr (Φ 31).fd (Φ 31).ps (spCopy (T.cls 2) ("legs" : Str)) := by
  rw [hd.p_Alike_init]
  exact FnOk_copy hd.d_Alike_init ⟨rfl, rfl, rfl, by decide, rfl, by decide, by decide⟩ rfl hd.m_list rfl (Or.inl rfl) (Or.inl rfl) (by decide) (by decide) (by decide) (by decide) hd.cl_Alike hd.na_Alike_legs
theorem shp_Alike_init_none_ok (hd : HD T Φ ka sI) : IShapeOk T (Φ shp_Alike_init_none.f).fd (Φ shp_Alike_init_none.f).ps shp_Alike_init_none.n shp_Alike_init_none.ks shp_Alike_init_none.src := ishape_pos (bn_Alike_init hd) (by show _ = (Φ 31).ps.length; rw [hd.p_Alike_init]; rfl) (by decide)
theorem bn_law_is_alike (hd : HD T Φ ka sI) : Binds T.K (Φ 32).fd (Φ 32).ps [] := by rw [hd.p_law_is_alike]; exact hd.d_law_is_alike.bindsN fun _ _ _ _ _ _ us hl => match us, hl with | [_, _, _], _ => rfl
theorem sh_law_is_alike (hd : HD T Φ ka sI) : ShapeOk T (Φ 32).fd (Φ 32).ps 3 [] (srcP 3) := shape_pos (bn_law_is_alike hd) (by rw [hd.p_law_is_alike]; rfl)
theorem b_law_is_alike (hd : HD T Φ ka sI) (S : Sok T N_law_is_alike (defScope s_law_is_alike) W 10 X) : PSs X (defBody s_law_is_alike) (tS T W F_law_is_alike) :=
  (S_cons (S_let' S (E_dictP S.C hd.m_dict (Q_cons (P_of (E_lc S.C [(("_law_both" : Str), 4)] (I_seq S.C (E_var S.C 2)) (fun _ C1 => (G_n C1 4)) (fun _ C1 => B_nil) (fun _ C1 => (be_tup (A_cons (E_var C1 4) (A_cons E_bl A_nil)))))) Q_nil))) (S_cons (S_if (T_cmp (R_ninK S.C) (P_of (be_tup (A_cons (be_tup (A_cons E_str (A_cons E_int A_nil))) (A_cons (be_tup (A_cons E_str (A_cons E_int A_nil))) A_nil)))) (P_var S.C 3)) (S_cons (S_ret (P_of E_bl)) S_nil) S_nil) (S_cons (S_for S (I_keys S.C (E_var S.C 3)) (G_n S.C 4 (hf := Or.inl (S.C.hfn rfl _))) (S_cons (S_for S (I_seq S.C (E_fn (src := srcP 0) S.C (ok_law_turns hd) hd.g_law_turns hd.d_law_turns.kp (sh_law_turns hd) A_nil K_nil)) (G_n S.C 5 (hf := Or.inl (S.C.hfn rfl _))) (S_cons (S_tgt' S (E_fn (src := srcP 4) S.C (ok_law_parted hd) hd.g_law_parted hd.d_law_parted.kp (sh_law_parted hd) (A_cons (E_var S.C 0) (A_cons (E_var S.C 1) (A_cons (E_var S.C 4) (A_cons (E_var S.C 5) A_nil)))) K_nil) (G_t2 S.C 6 7 (hf := Or.inl (S.C.hfn rfl _)) (hf2 := Or.inl (S.C.hfn rfl _)))) (S_cons (S_if (PW.pt (bw_or (T_val (E_var S.C 6)) (bw_or1 (PW.pt (bw_and (T_cmp R_isnt (P_var S.C 7) (P_of E_non)) (bw_and1 (T_cmp (R_ninK S.C) (P_var S.C 7) (P_var S.C 3)))))))) (S_cons (S_ret (P_of E_bl)) S_nil) S_nil) S_nil))) S_nil)) (S_cons (S_ret (P_of E_bl)) S_nil))))
theorem ok_law_is_alike (hd : HD T Φ ka sI) : OkB T Φ 11 32 3 M_law_is_alike := by
  unfold OkB; rw [hd.p_law_is_alike]
  exact FnOk_of (N := N_law_is_alike) (ps := [("_law_one" : Str), ("_law_other" : Str), ("_law_states" : Str)]) hd.d_law_is_alike ⟨rfl, rfl, rfl, by decide, rfl, by decide, by decide⟩ rfl fun W X S => b_law_is_alike hd S
theorem bn_law_lists_right (hd : HD T Φ ka sI) : Binds T.K (Φ 33).fd (Φ 33).ps [] := by rw [hd.p_law_lists_right]; exact hd.d_law_lists_right.bindsN fun _ _ _ _ _ _ us hl => match us, hl with | [_, _, _, _], _ => rfl
theorem sh_law_lists_right (hd : HD T Φ ka sI) : ShapeOk T (Φ 33).fd (Φ 33).ps 4 [] (srcP 4) := shape_pos (bn_law_lists_right hd) (by rw [hd.p_law_lists_right]; rfl)
theorem b_law_lists_right (hd : HD T Φ ka sI) (S : Sok T N_law_lists_right (defScope s_law_lists_right) W 13 X) : PSs X (defBody s_law_lists_right) (tS T W F_law_lists_right) :=
  (S_cons (S_par3 (o1 := false) (o2 := false) (o3 := false) S (E_fn (src := srcP 1) S.C (ok_law_made hd) hd.g_law_made hd.d_law_made.kp (sh_law_made hd) (A_cons (E_var S.C 1) A_nil) K_nil) (E_fn (src := srcP 1) S.C (ok_law_made hd) hd.g_law_made hd.d_law_made.kp (sh_law_made hd) (A_cons (E_var S.C 2) A_nil) K_nil) (E_listK S.C hd.m_list (Q_cons (P_var S.C 3) Q_nil))) (S_cons (S_par2 S (E_fn (src := srcP 2) S.C (ok_law_take hd) hd.g_law_take hd.d_law_take.kp (sh_law_take hd) (A_cons (E_var S.C 0) (A_cons (E_bi S.C .len hd.m_len (Q_cons (P_var S.C 6) Q_nil)) A_nil)) K_nil) (E_fn (src := srcP 2) S.C (ok_law_pick hd) hd.g_law_pick hd.d_law_pick.kp (sh_law_pick hd) (A_cons (E_var S.C 0) (A_cons (E_var S.C 6) A_nil)) K_nil)) (S_cons (S_let' S (be_tup (A_cons (E_ix S.C (P_of (E_fn (src := srcP 2) S.C (ok_law_pick hd) hd.g_law_pick hd.d_law_pick.kp (sh_law_pick hd) (A_cons (E_var S.C 0) (A_cons (E_var S.C 6) A_nil)) K_nil)) (P_of E_int)) (A_cons (E_ix S.C (P_var S.C 8) (P_of E_int)) A_nil)))) (S_cons (S_for S (I_seq S.C (be_tup (A_cons (E_var S.C 6) (A_cons (E_add S.C (P_of (E_rev S.C (P_var S.C 6))) (P_of (E_sl S.C (P_var S.C 6) bo_none (bo_some E_int)))) (A_cons (E_add S.C (P_of (E_sl S.C (P_var S.C 6) bo_none (bo_some (E_var S.C 7)))) (P_of (E_sl S.C (P_var S.C 6) (bo_some (E_add S.C (P_var S.C 7) (P_of E_int))) bo_none))) (A_cons (E_sl S.C (P_var S.C 6) (bo_some E_int) bo_none) (A_cons (be_lst A_nil) (A_cons (E_add S.C (P_var S.C 6) (P_of (be_lst (A_cons (E_var S.C 9) A_nil)))) A_nil)))))))) (G_n S.C 10 (hf := Or.inl (S.C.hfn rfl _))) (S_cons (S_if (T_cmp (R_ne S.C) (P_of (E_meth (M := (fun _ => M_Alike_shows)) (alts := ma_Alike_shows) (kf := 11) S.C (mf_Alike_shows hd) (mo_Alike_shows hd) (E_mk (sh := shp_Alike_init_none) (n := 1) S.C (ok_Alike_init hd) hd.mk_Alike hd.gm_Alike rfl (shp_Alike_init_none_ok hd) (A_cons (E_var S.C 10) A_nil) K_nil) (A_cons (E_var S.C 4) (A_cons (E_var S.C 5) A_nil)) K_nil)) (P_of (E_fn (src := srcP 3) S.C (ok_law_is_alike hd) hd.g_law_is_alike hd.d_law_is_alike.kp (sh_law_is_alike hd) (A_cons (E_var S.C 1) (A_cons (E_var S.C 2) (A_cons (E_var S.C 10) A_nil))) K_nil))) (S_cons (S_ret (P_of E_bl)) S_nil) S_nil) S_nil)) (S_cons (S_ret (P_of E_bl)) S_nil)))))
theorem ok_law_lists_right (hd : HD T Φ ka sI) : OkB T Φ 14 33 4 M_law_lists_right := by
  unfold OkB; rw [hd.p_law_lists_right]
  exact FnOk_of (N := N_law_lists_right) (ps := [("_law_draw" : Str), ("_law_one" : Str), ("_law_other" : Str), ("_law_found" : Str)]) hd.d_law_lists_right ⟨rfl, rfl, rfl, by decide, rfl, by decide, by decide⟩ rfl fun W X S => b_law_lists_right hd S
theorem bn_Parted_shows (hd : HD T Φ ka sI) : Binds T.K (Φ 34).fd (Φ 34).ps [] := by rw [hd.p_Parted_shows]; exact hd.d_Parted_shows.bindsN fun _ _ _ _ _ _ us hl => match us, hl with | [_, _, _], _ => rfl
theorem sh_Parted_shows (hd : HD T Φ ka sI) : ShapeOk T (Φ 34).fd (Φ 34).ps 3 [] (srcP 3) := shape_pos (bn_Parted_shows hd) (by rw [hd.p_Parted_shows]; rfl)
theorem b_Parted_shows (hd : HD T Φ ka sI) (S : Sok T N_Parted_shows (defScope s_Parted_shows) W 10 X) : PSs X (defBody s_Parted_shows) (tS T W F_Parted_shows) :=
  (S_cons (S_expr (E_fn (src := srcP 2) S.C (ok_check_two hd) hd.g_check_two hd.d_check_two.kp (sh_check_two hd) (A_cons (E_var S.C 1) (A_cons (E_var S.C 2) A_nil)) K_nil) rfl) (S_cons (S_tgt' S (be_tup (A_cons (be_tup (A_cons E_str (A_cons E_int A_nil))) (A_cons (be_tup (A_cons E_str (A_cons E_int A_nil))) A_nil))) (G_t2 S.C 3 4 (hf := Or.inl (S.C.hfn rfl _)) (hf2 := Or.inl (S.C.hfn rfl _)))) (S_cons (S_for S (I_enum S.C hd.m_enumerate (E_attr (kf := 0) S.C hd.hfl (af_turns hd) (ao_turns hd) (E_var S.C 0))) (G_t2 S.C 5 6 (hf := Or.inl (S.C.hfn rfl _)) (hf2 := Or.inl (S.C.hfn rfl _))) (S_cons (S_par2 S (E_fn (src := srcP 3) S.C (ok_turned hd) hd.g_turned hd.d_turned.kp (sh_turned hd) (A_cons (E_var S.C 1) (A_cons (E_var S.C 3) (A_cons (E_var S.C 6) A_nil))) K_nil) (E_fn (src := srcP 3) S.C (ok_turned hd) hd.g_turned hd.d_turned.kp (sh_turned hd) (A_cons (E_var S.C 2) (A_cons (E_var S.C 4) (A_cons (E_var S.C 6) A_nil))) K_nil)) (S_cons (S_if (T_val (E_fn (src := srcP 2) S.C (ok_is_parted hd) hd.g_is_parted hd.d_is_parted.kp (sh_is_parted hd) (A_cons (E_var S.C 7) (A_cons (E_var S.C 8) A_nil)) K_nil)) (S_cons (S_ret (P_of (E_cmp (R_eq S.C) (P_var S.C 5) (P_of (E_sub (P_of (E_bi S.C .len hd.m_len (Q_cons (P_of (E_attr (kf := 0) S.C hd.hfl (af_turns hd) (ao_turns hd) (E_var S.C 0))) Q_nil))) (P_of E_int)))))) S_nil) S_nil) (S_cons (S_if (T_cmp R_is (P_var S.C 7) (P_of E_non)) (S_cons (S_ret (P_of E_bl)) S_nil) S_nil) (S_cons (S_par2 S (E_ix S.C (P_var S.C 7) (P_of E_int)) (E_ix S.C (P_var S.C 8) (P_of E_int))) S_nil))))) (S_cons (S_ret (P_of E_bl)) S_nil))))
theorem ok_Parted_shows (hd : HD T Φ ka sI) : OkB T Φ 11 34 3 M_Parted_shows := by
  unfold OkB; rw [hd.p_Parted_shows]
  exact FnOk_of (N := N_Parted_shows) (ps := [("self" : Str), ("one" : Str), ("other" : Str)]) hd.d_Parted_shows ⟨rfl, rfl, rfl, by decide, rfl, by decide, by decide⟩ rfl fun W X S => b_Parted_shows hd S
theorem mf_Parted_shows (hd : HD T Φ ka sI) : ∀ c s, (c, s) ∈ ma_Parted_shows → OkB T Φ 11 s.f s.src.length M_Parted_shows := by
  intro c s h; simp only [ma_Parted_shows, List.mem_cons, List.not_mem_nil, or_false, Prod.mk.injEq] at h
  obtain ⟨_, rfl⟩ := h; exact ok_Parted_shows hd
theorem mo_Parted_shows (hd : HD T Φ ka sI) : ∀ alt ∈ ma_Parted_shows, MAltOk T Φ ("shows" : Str) [] alt := by
  intro alt h; simp only [ma_Parted_shows, List.mem_cons, List.not_mem_nil, or_false] at h
  subst h; exact ⟨hd.cl_Parted, hd.me_Parted_shows, by show ∀ vs : List V, ((T.flds 3).zip vs).lookup _ = none; rw [hd.hfl]; exact zip_no (by decide), sh_Parted_shows hd, rfl⟩
theorem bn_Parted_init (hd : HD T Φ ka sI) : Binds T.K (Φ 35).fd (Φ 35).ps [] := by rw [hd.p_Parted_init]; exact hd.d_Parted_init.bindsN fun _ _ _ _ _ _ us hl => match us, hl with | [_, _], _ => rfl
theorem sh_Parted_init (hd : HD T Φ ka sI) : ShapeOk T (Φ 35).fd (Φ 35).ps 2 [] (srcP 2) := shape_pos (bn_Parted_init hd) (by rw [hd.p_Parted_init]; rfl)
theorem b_Parted_init (hd : HD T Φ ka sI) (S : Sok T N_Parted_init (defScope s_Parted_init) W 1 X) : PSs X (defBody s_Parted_init) (tS T W F_Parted_init) :=
  (S_cons (bs_setf (c := 3) (j := 0) S rfl (Or.inl rfl) (by decide) (by decide) (by rw [hd.hfl]; rfl) (by rw [hd.hfl]; decide) (by rw [hd.hfl]; decide) hd.cl_Parted hd.na_Parted_turns (E_bi S.C .list hd.m_list (Q_cons (P_var S.C 1) Q_nil)) (swap_no rfl)) S_nil)
theorem ok_Parted_init (hd : HD T Φ ka sI) : OkI T Φ 2 35 3 1 MI_Parted_init := by
  unfold OkI; rw [hd.p_Parted_init]
  exact FnOkI_of (N := N_Parted_init) (ps := [("self" : Str), ("turns" : Str)]) hd.d_Parted_init ⟨rfl, rfl, rfl, by decide, rfl, by decide, by decide⟩ rfl (by decide) (by rw [hd.hfl]; rfl) fun z W X S => b_Parted_init (hd.slf z) S
theorem okc_Parted_init (hd : HD T Φ ka sI) : FnOk T.prog T.w T.K T.mg T.base (L2.CX T.prog T.w) 2 (Φ 35).addr (Φ 35).fd (Φ 35).ps (spCopy (T.cls 3) ("turns" : Str)) := by
  rw [hd.p_Parted_init]
  exact FnOk_copy hd.d_Parted_init ⟨rfl, rfl, rfl, by decide, rfl, by decide, by decide⟩ rfl hd.m_list rfl (Or.inl rfl) (Or.inl rfl) (by decide) (by decide) (by decide) (by decide) hd.cl_Parted hd.na_Parted_turns
theorem shp_Parted_init_none_ok (hd : HD T Φ ka sI) : IShapeOk T (Φ shp_Parted_init_none.f).fd (Φ shp_Parted_init_none.f).ps shp_Parted_init_none.n shp_Parted_init_none.ks shp_Parted_init_none.src := ishape_pos (bn_Parted_init hd) (by show _ = (Φ 35).ps.length; rw [hd.p_Parted_init]; rfl) (by decide)
theorem bn_law_is_parting (hd : HD T Φ ka sI) : Binds T.K (Φ 36).fd (Φ 36).ps [] := by rw [hd.p_law_is_parting]; exact hd.d_law_is_parting.bindsN fun _ _ _ _ _ _ us hl => match us, hl with | [_, _, _], _ => rfl
theorem sh_law_is_parting (hd : HD T Φ ka sI) : ShapeOk T (Φ 36).fd (Φ 36).ps 3 [] (srcP 3) := shape_pos (bn_law_is_parting hd) (by rw [hd.p_law_is_parting]; rfl)
theorem b_law_is_parting (hd : HD T Φ ka sI) (S : Sok T N_law_is_parting (defScope s_law_is_parting) W 10 X) : PSs X (defBody s_law_is_parting) (tS T W F_law_is_parting) :=
  (S_cons (S_let' S (be_tup (A_cons (be_tup (A_cons E_str (A_cons E_int A_nil))) (A_cons (be_tup (A_cons E_str (A_cons E_int A_nil))) A_nil)))) (S_cons (S_for S (I_enum S.C hd.m_enumerate (E_var S.C 2)) (G_t2 S.C 4 5 (hf := Or.inl (S.C.hfn rfl _)) (hf2 := Or.inl (S.C.hfn rfl _))) (S_cons (S_tgt' S (E_fn (src := srcP 4) S.C (ok_law_parted hd) hd.g_law_parted hd.d_law_parted.kp (sh_law_parted hd) (A_cons (E_var S.C 0) (A_cons (E_var S.C 1) (A_cons (E_var S.C 3) (A_cons (E_var S.C 5) A_nil)))) K_nil) (G_t2 S.C 6 7 (hf := Or.inl (S.C.hfn rfl _)) (hf2 := Or.inl (S.C.hfn rfl _)))) (S_cons (S_if (PW.pt (bw_or (T_val (E_var S.C 6)) (bw_or1 (T_cmp R_is (P_var S.C 7) (P_of E_non))))) (S_cons (S_ret (P_of (be_and (E_var S.C 6) (be_one (E_cmp (R_eq S.C) (P_var S.C 4) (P_of (E_sub (P_of (E_bi S.C .len hd.m_len (Q_cons (P_var S.C 2) Q_nil))) (P_of E_int)))))))) S_nil) S_nil) (S_cons (S_let' S (E_var S.C 7)) S_nil)))) (S_cons (S_ret (P_of E_bl)) S_nil)))
theorem ok_law_is_parting (hd : HD T Φ ka sI) : OkB T Φ 11 36 3 M_law_is_parting := by
  unfold OkB; rw [hd.p_law_is_parting]
  exact FnOk_of (N := N_law_is_parting) (ps := [("_law_one" : Str), ("_law_other" : Str), ("_law_row" : Str)]) hd.d_law_is_parting ⟨rfl, rfl, rfl, by decide, rfl, by decide, by decide⟩ rfl fun W X S => b_law_is_parting hd S
theorem bn_law_rows_right (hd : HD T Φ ka sI) : Binds T.K (Φ 37).fd (Φ 37).ps [] := by rw [hd.p_law_rows_right]; exact hd.d_law_rows_right.bindsN fun _ _ _ _ _ _ us hl => match us, hl with | [_, _, _, _], _ => rfl
theorem sh_law_rows_right (hd : HD T Φ ka sI) : ShapeOk T (Φ 37).fd (Φ 37).ps 4 [] (srcP 4) := shape_pos (bn_law_rows_right hd) (by rw [hd.p_law_rows_right]; rfl)
theorem b_law_rows_right (hd : HD T Φ ka sI) (S : Sok T N_law_rows_right (defScope s_law_rows_right) W 13 X) : PSs X (defBody s_law_rows_right) (tS T W F_law_rows_right) :=
  (S_cons (S_par3 (o1 := false) (o2 := false) (o3 := false) S (E_fn (src := srcP 1) S.C (ok_law_made hd) hd.g_law_made hd.d_law_made.kp (sh_law_made hd) (A_cons (E_var S.C 1) A_nil) K_nil) (E_fn (src := srcP 1) S.C (ok_law_made hd) hd.g_law_made hd.d_law_made.kp (sh_law_made hd) (A_cons (E_var S.C 2) A_nil) K_nil) (E_listK S.C hd.m_list (Q_cons (P_var S.C 3) Q_nil))) (S_cons (S_for S (I_rng1 S.C hd.m_range (Q_cons (P_of E_int) Q_nil)) (G_n S.C 7 (hf := Or.inl (S.C.hfn rfl _))) (S_cons (S_let' S (E_ixK S.C (P_var S.C 3) (P_of (E_fn (src := srcP 2) S.C (ok_law_pick hd) hd.g_law_pick hd.d_law_pick.kp (sh_law_pick hd) (A_cons (E_var S.C 0) (A_cons (E_var S.C 6) A_nil)) K_nil)))) (S_cons (S_par2 S (E_fn (src := srcP 2) S.C (ok_law_take hd) hd.g_law_take hd.d_law_take.kp (sh_law_take hd) (A_cons (E_var S.C 0) (A_cons (E_add S.C (P_of (E_bi S.C .len hd.m_len (Q_cons (P_var S.C 8) Q_nil))) (P_of E_int)) A_nil)) K_nil) (E_fn (src := srcP 2) S.C (ok_law_pick hd) hd.g_law_pick hd.d_law_pick.kp (sh_law_pick hd) (A_cons (E_var S.C 0) (A_cons (E_fn (src := srcP 0) S.C (ok_law_turns hd) hd.g_law_turns hd.d_law_turns.kp (sh_law_turns hd) A_nil K_nil) A_nil)) K_nil)) (S_cons (S_for S (I_seq S.C (be_tup (A_cons (E_var S.C 8) (A_cons (E_add S.C (P_var S.C 8) (P_of (be_lst (A_cons (E_var S.C 10) A_nil)))) (A_cons (E_add S.C (P_of (E_sl S.C (P_var S.C 8) bo_none (bo_some (E_var S.C 9)))) (P_of (E_sl S.C (P_var S.C 8) (bo_some (E_add S.C (P_var S.C 9) (P_of E_int))) bo_none))) (A_cons (E_add S.C (P_of (E_add S.C (P_of (E_sl S.C (P_var S.C 8) bo_none (bo_some (E_var S.C 9)))) (P_of (be_lst (A_cons (E_var S.C 10) A_nil))))) (P_of (E_sl S.C (P_var S.C 8) (bo_some (E_var S.C 9)) bo_none))) (A_cons (E_rev S.C (P_var S.C 8)) A_nil))))))) (G_n S.C 11 (hf := Or.inl (S.C.hfn rfl _))) (S_cons (S_if (T_cmp (R_ne S.C) (P_of (E_meth (M := (fun _ => M_Parted_shows)) (alts := ma_Parted_shows) (kf := 11) S.C (mf_Parted_shows hd) (mo_Parted_shows hd) (E_mk (sh := shp_Parted_init_none) (n := 1) S.C (ok_Parted_init hd) hd.mk_Parted hd.gm_Parted rfl (shp_Parted_init_none_ok hd) (A_cons (E_var S.C 11) A_nil) K_nil) (A_cons (E_var S.C 4) (A_cons (E_var S.C 5) A_nil)) K_nil)) (P_of (E_fn (src := srcP 3) S.C (ok_law_is_parting hd) hd.g_law_is_parting hd.d_law_is_parting.kp (sh_law_is_parting hd) (A_cons (E_var S.C 1) (A_cons (E_var S.C 2) (A_cons (E_var S.C 11) A_nil))) K_nil))) (S_cons (S_ret (P_of E_bl)) S_nil) S_nil) S_nil)) S_nil)))) (S_cons (S_for S (I_seq S.C (E_fn (src := srcP 0) S.C (ok_law_turns hd) hd.g_law_turns hd.d_law_turns.kp (sh_law_turns hd) A_nil K_nil)) (G_n S.C 10 (hf := Or.inl (S.C.hfn rfl _))) (S_cons (S_let' S (E_add S.C (P_of (E_ixK S.C (P_var S.C 3) (P_of (E_fn (src := srcP 2) S.C (ok_law_pick hd) hd.g_law_pick hd.d_law_pick.kp (sh_law_pick hd) (A_cons (E_var S.C 0) (A_cons (E_var S.C 6) A_nil)) K_nil)))) (P_of (be_lst (A_cons (E_var S.C 10) A_nil))))) (S_cons (S_if (T_cmp (R_ne S.C) (P_of (E_meth (M := (fun _ => M_Parted_shows)) (alts := ma_Parted_shows) (kf := 11) S.C (mf_Parted_shows hd) (mo_Parted_shows hd) (E_mk (sh := shp_Parted_init_none) (n := 1) S.C (ok_Parted_init hd) hd.mk_Parted hd.gm_Parted rfl (shp_Parted_init_none_ok hd) (A_cons (E_var S.C 8) A_nil) K_nil) (A_cons (E_var S.C 4) (A_cons (E_var S.C 5) A_nil)) K_nil)) (P_of (E_fn (src := srcP 3) S.C (ok_law_is_parting hd) hd.g_law_is_parting hd.d_law_is_parting.kp (sh_law_is_parting hd) (A_cons (E_var S.C 1) (A_cons (E_var S.C 2) (A_cons (E_var S.C 8) A_nil))) K_nil))) (S_cons (S_ret (P_of E_bl)) S_nil) S_nil) S_nil))) (S_cons (S_ret (P_of (be_not (E_meth (M := (fun _ => M_Parted_shows)) (alts := ma_Parted_shows) (kf := 11) S.C (mf_Parted_shows hd) (mo_Parted_shows hd) (E_mk (sh := shp_Parted_init_none) (n := 1) S.C (ok_Parted_init hd) hd.mk_Parted hd.gm_Parted rfl (shp_Parted_init_none_ok hd) (A_cons (be_lst A_nil) A_nil) K_nil) (A_cons (E_var S.C 4) (A_cons (E_var S.C 5) A_nil)) K_nil)))) S_nil))))
theorem ok_law_rows_right (hd : HD T Φ ka sI) : OkB T Φ 14 37 4 M_law_rows_right := by
  unfold OkB; rw [hd.p_law_rows_right]
  exact FnOk_of (N := N_law_rows_right) (ps := [("_law_draw" : Str), ("_law_one" : Str), ("_law_other" : Str), ("_law_found" : Str)]) hd.d_law_rows_right ⟨rfl, rfl, rfl, by decide, rfl, by decide, by decide⟩ rfl fun W X S => b_law_rows_right hd S
theorem bn_Alike_eq (hd : HD T Φ ka sI) : Binds T.K (Φ 38).fd (Φ 38).ps [] := by rw [hd.p_Alike_eq]; exact hd.d_Alike_eq.bindsN fun _ _ _ _ _ _ us hl => match us, hl with | [_, _], _ => rfl
theorem sh_Alike_eq (hd : HD T Φ ka sI) : ShapeOk T (Φ 38).fd (Φ 38).ps 2 [] (srcP 2) := shape_pos (bn_Alike_eq hd) (by rw [hd.p_Alike_eq]; rfl)
theorem b_Alike_eq (hd : HD T Φ ka sI) (S : Sok T N_Alike_eq (defScope s_Alike_eq) W 1 X) : PSs X (defBody s_Alike_eq) (tS T W F_Alike_eq) :=
  (S_cons (S_ret (P_of (be_and (E_isi S.C hd.m_isinstance (insAll hd) (tyc_Alike hd) (Y_c S.C hd.gm_Alike) (P_var S.C 1)) (be_one (E_cmp (R_eq S.C) (P_of (E_attr (kf := 0) S.C hd.hfl (af_legs hd) (ao_legs hd) (E_var S.C 0))) (P_of (E_attr (kf := 0) S.C hd.hfl (af_legs hd) (ao_legs hd) (E_var S.C 1)))))))) S_nil)
theorem ok_Alike_eq (hd : HD T Φ ka sI) : OkB T Φ 2 38 2 M_Alike_eq := by
  unfold OkB; rw [hd.p_Alike_eq]
  exact FnOk_of (N := N_Alike_eq) (ps := [("self" : Str), ("other" : Str)]) hd.d_Alike_eq ⟨rfl, rfl, rfl, by decide, rfl, by decide, by decide⟩ rfl fun W X S => b_Alike_eq hd S
theorem eq_Alike (hd : HD T Φ ka sI) : EqOk T Φ 2 38 := ⟨hd.me_Alike_eq.at_, hd.me_Alike_eq.fn, hd.ne_Alike, hd.i2_Alike, bn_Alike_eq hd, all7 hd.i5_Alike_NoneType hd.i5_Alike_bool hd.i5_Alike_int hd.i5_Alike_str hd.i5_Alike_tuple hd.i5_Alike_list hd.i5_Alike_dict⟩
theorem bn_Parted_eq (hd : HD T Φ ka sI) : Binds T.K (Φ 39).fd (Φ 39).ps [] := by rw [hd.p_Parted_eq]; exact hd.d_Parted_eq.bindsN fun _ _ _ _ _ _ us hl => match us, hl with | [_, _], _ => rfl
theorem sh_Parted_eq (hd : HD T Φ ka sI) : ShapeOk T (Φ 39).fd (Φ 39).ps 2 [] (srcP 2) := shape_pos (bn_Parted_eq hd) (by rw [hd.p_Parted_eq]; rfl)
theorem b_Parted_eq (hd : HD T Φ ka sI) (S : Sok T N_Parted_eq (defScope s_Parted_eq) W 1 X) : PSs X (defBody s_Parted_eq) (tS T W F_Parted_eq) :=
  (S_cons (S_ret (P_of (be_and (E_isi S.C hd.m_isinstance (insAll hd) (tyc_Parted hd) (Y_c S.C hd.gm_Parted) (P_var S.C 1)) (be_one (E_cmp (R_eq S.C) (P_of (E_attr (kf := 0) S.C hd.hfl (af_turns hd) (ao_turns hd) (E_var S.C 0))) (P_of (E_attr (kf := 0) S.C hd.hfl (af_turns hd) (ao_turns hd) (E_var S.C 1)))))))) S_nil)
theorem ok_Parted_eq (hd : HD T Φ ka sI) : OkB T Φ 2 39 2 M_Parted_eq := by
  unfold OkB; rw [hd.p_Parted_eq]
  exact FnOk_of (N := N_Parted_eq) (ps := [("self" : Str), ("other" : Str)]) hd.d_Parted_eq ⟨rfl, rfl, rfl, by decide, rfl, by decide, by decide⟩ rfl fun W X S => b_Parted_eq hd S
theorem eq_Parted (hd : HD T Φ ka sI) : EqOk T Φ 3 39 := ⟨hd.me_Parted_eq.at_, hd.me_Parted_eq.fn, hd.ne_Parted, hd.i2_Parted, bn_Parted_eq hd, all7 hd.i5_Parted_NoneType hd.i5_Parted_bool hd.i5_Parted_int hd.i5_Parted_str hd.i5_Parted_tuple hd.i5_Parted_list hd.i5_Parted_dict⟩
theorem bn_law_equal_right (hd : HD T Φ ka sI) : Binds T.K (Φ 40).fd (Φ 40).ps [] := by rw [hd.p_law_equal_right]; exact hd.d_law_equal_right.bindsN fun _ _ _ _ _ _ us hl => match us, hl with | [_], _ => rfl
theorem sh_law_equal_right (hd : HD T Φ ka sI) : ShapeOk T (Φ 40).fd (Φ 40).ps 1 [] (srcP 1) := shape_pos (bn_law_equal_right hd) (by rw [hd.p_law_equal_right]; rfl)
theorem b_law_equal_right (hd : HD T Φ ka sI) (S : Sok T N_law_equal_right (defScope s_law_equal_right) W 4 X) : PSs X (defBody s_law_equal_right) (tS T W F_law_equal_right) :=
  (S_cons (S_par2' (o1 := true) (o2 := true) S (N_sl S.C (P_of (E_listK S.C hd.m_list (Q_cons (P_var S.C 0) Q_nil))) bo_none (bo_some E_int)) (N_lst (A_cons (be_tup (A_cons E_str (A_cons E_non A_nil))) A_nil))) (S_cons (S_par2 S (E_mkCopy S.C 1 (okc_Alike_init hd) hd.mk_Alike hd.gm_Alike (bn_Alike_init hd) (by rw [hd.p_Alike_init]; rfl) (by rw [hd.hfl]; rfl)) (E_mkCopy S.C 2 (okc_Parted_init hd) hd.mk_Parted hd.gm_Parted (bn_Parted_init hd) (by rw [hd.p_Parted_init]; rfl) (by rw [hd.hfl]; rfl))) (S_cons (S_let' S (E_bi S.C .list hd.m_list (Q_cons (P_var S.C 1) Q_nil))) (S_cons (S_clr S 1) (S_cons (S_clr S 2) (S_cons (S_if (PW.pt (bw_or (T_cmp (R_ne S.C) (P_of (E_attr (kf := 0) S.C hd.hfl (af_legs hd) (ao_legs hd) (E_var S.C 3))) (P_var S.C 5)) (bw_or (T_cmp (R_ne S.C) (P_of (E_attr (kf := 0) S.C hd.hfl (af_turns hd) (ao_turns hd) (E_var S.C 4))) (P_of (be_lst (A_cons (be_tup (A_cons E_str (A_cons E_non A_nil))) A_nil)))) (bw_or (T_cmp (R_eqI S.C (eq_Alike hd) (ins_Alike hd) (ok_Alike_eq hd)) (P_var S.C 3) (P_of (E_mk (sh := shp_Alike_init_none) (n := 1) S.C (ok_Alike_init hd) hd.mk_Alike hd.gm_Alike rfl (shp_Alike_init_none_ok hd) (A_cons (be_lst A_nil) A_nil) K_nil))) (bw_or1 (T_cmp (R_eqI S.C (eq_Parted hd) (ins_Parted hd) (ok_Parted_eq hd)) (P_var S.C 4) (P_of (E_mk (sh := shp_Parted_init_none) (n := 1) S.C (ok_Parted_init hd) hd.mk_Parted hd.gm_Parted rfl (shp_Parted_init_none_ok hd) (A_cons (be_lst A_nil) A_nil) K_nil)))))))) (S_cons (S_ret (P_of E_bl)) S_nil) S_nil) (S_cons (S_ret (P_of (be_and (E_cmp (R_eqI S.C (eq_Alike hd) (ins_Alike hd) (ok_Alike_eq hd)) (P_var S.C 3) (P_of (E_mk (sh := shp_Alike_init_none) (n := 1) S.C (ok_Alike_init hd) hd.mk_Alike hd.gm_Alike rfl (shp_Alike_init_none_ok hd) (A_cons (E_var S.C 5) A_nil) K_nil))) (be_and (E_cmp (R_eqI S.C (eq_Parted hd) (ins_Parted hd) (ok_Parted_eq hd)) (P_var S.C 4) (P_of (E_mk (sh := shp_Parted_init_none) (n := 1) S.C (ok_Parted_init hd) hd.mk_Parted hd.gm_Parted rfl (shp_Parted_init_none_ok hd) (A_cons (be_lst (A_cons (be_tup (A_cons E_str (A_cons E_non A_nil))) A_nil)) A_nil) K_nil))) (be_and (E_cmp (R_neJ S.C (eq_Alike hd) (ins_Alike hd) (ins_Parted hd) hd.su_Parted_Alike (ok_Alike_eq hd)) (P_var S.C 3) (P_var S.C 4)) (be_one (E_cmp (R_neJ S.C (eq_Alike hd) (ins_Alike hd) (ins_Parted hd) hd.su_Parted_Alike (ok_Alike_eq hd)) (P_of (E_mk (sh := shp_Alike_init_none) (n := 1) S.C (ok_Alike_init hd) hd.mk_Alike hd.gm_Alike rfl (shp_Alike_init_none_ok hd) (A_cons (be_lst A_nil) A_nil) K_nil)) (P_of (E_mk (sh := shp_Parted_init_none) (n := 1) S.C (ok_Parted_init hd) hd.mk_Parted hd.gm_Parted rfl (shp_Parted_init_none_ok hd) (A_cons (be_lst A_nil) A_nil) K_nil))))))))) S_nil)))))))
theorem ok_law_equal_right (hd : HD T Φ ka sI) : OkB T Φ 5 40 1 M_law_equal_right := by
  unfold OkB; rw [hd.p_law_equal_right]
  exact FnOk_of (N := N_law_equal_right) (ps := [("_law_found" : Str)]) hd.d_law_equal_right ⟨rfl, rfl, rfl, by decide, rfl, by decide, by decide⟩ rfl fun W X S => b_law_equal_right hd S
theorem bn_law (hd : HD T Φ ka sI) : Binds T.K (Φ 41).fd (Φ 41).ps [] := by rw [hd.p_law]; exact hd.d_law.bindsN fun _ _ _ _ _ _ us hl => match us, hl with | [_], _ => rfl
theorem sh_law (hd : HD T Φ ka sI) : ShapeOk T (Φ 41).fd (Φ 41).ps 1 [] (srcP 1) := shape_pos (bn_law hd) (by rw [hd.p_law]; rfl)
theorem b_law (hd : HD T Φ ka sI) (S : Sok T N_law (defScope s_law) W 16 X) : PSs X (defBody s_law) (tS T W F_law) :=
  (S_cons (S_let' S (E_drwNew (E_var S.C 0))) (S_cons (S_for S (I_rng1 S.C hd.m_range (Q_cons (P_of E_int) Q_nil)) (G_n S.C 2 (hf := Or.inl (S.C.hfn rfl _))) (S_cons (S_let' S (E_fn (src := srcP 1) S.C (ok_law_parts hd) hd.g_law_parts hd.d_law_parts.kp (sh_law_parts hd) (A_cons (E_var S.C 1) A_nil) K_nil)) (S_cons (S_let' S (E_fn (src := srcP 2) S.C (ok_law_take hd) hd.g_law_take hd.d_law_take.kp (sh_law_take hd) (A_cons (E_var S.C 1) (A_cons E_int A_nil)) K_nil)) (S_cons (S_let' S (be_ite (T_cmp R_gt (P_var S.C 4) (P_of E_int)) (E_var S.C 3) (E_add S.C (P_of (E_add S.C (P_of (E_sl S.C (P_var S.C 3) bo_none (bo_some (E_var S.C 4)))) (P_of (be_tup (A_cons (E_ix S.C (P_of (E_fn (src := srcP 1) S.C (ok_law_parts hd) hd.g_law_parts hd.d_law_parts.kp (sh_law_parts hd) (A_cons (E_var S.C 1) A_nil) K_nil)) (P_var S.C 4)) A_nil))))) (P_of (E_sl S.C (P_var S.C 3) (bo_some (E_add S.C (P_var S.C 4) (P_of E_int))) bo_none))))) (S_cons (S_let' S (E_fn (src := srcP 2) S.C (ok_law_reach hd) hd.g_law_reach hd.d_law_reach.kp (sh_law_reach hd) (A_cons (E_var S.C 3) (A_cons (E_var S.C 5) A_nil)) K_nil)) (S_cons (S_if (PW.pt (bw_or (bt_not (T_val (E_fn (src := srcP 4) S.C (ok_law_lists_right hd) hd.g_law_lists_right hd.d_law_lists_right.kp (sh_law_lists_right hd) (A_cons (E_var S.C 1) (A_cons (E_var S.C 3) (A_cons (E_var S.C 5) (A_cons (E_var S.C 6) A_nil)))) K_nil))) (bw_or1 (bt_not (T_val (E_fn (src := srcP 4) S.C (ok_law_rows_right hd) hd.g_law_rows_right hd.d_law_rows_right.kp (sh_law_rows_right hd) (A_cons (E_var S.C 1) (A_cons (E_var S.C 3) (A_cons (E_var S.C 5) (A_cons (E_var S.C 6) A_nil)))) K_nil)))))) (S_cons (S_ret (P_of E_bl)) S_nil) S_nil) (S_cons (S_if (bt_not (T_val (E_fn (src := srcP 1) S.C (ok_law_equal_right hd) hd.g_law_equal_right hd.d_law_equal_right.kp (sh_law_equal_right hd) (A_cons (E_var S.C 6) A_nil) K_nil))) (S_cons (S_ret (P_of E_bl)) S_nil) S_nil) S_nil))))))) (S_cons (S_ret (P_of E_bl)) S_nil)))
theorem ok_law (hd : HD T Φ ka sI) : OkB T Φ 17 41 1 M_law := by
  unfold OkB; rw [hd.p_law]
  exact FnOk_of (N := N_law) (ps := [("_law_script" : Str)]) hd.d_law ⟨rfl, rfl, rfl, by decide, rfl, by decide, by decide⟩ rfl fun W X S => b_law hd S
end
end K35
set_option Elab.async false
set_option linter.all false
set_option maxRecDepth 100000
set_option maxHeartbeats 4000000
namespace K35
open PySem L2 PySem.Spec PyProof.Rows BV
theorem vals_small {vs : List V} {its : Array Value} (h : Vals vs its.toList) (hv : vs.length ≤ 1000) : its.size ≤ sizeLine := by
  have := h.length
  have e : its.toList.length = its.size := by simp
  rw [sizeLine_eq]; omega
theorem dat_list {o : Obj} {its : Array Value} {n : Nat} (h : o.data = .seq its n) : o.data = .seq its.toList.toArray n := by rw [h]
def fnOf0 : FuncData := PySem.W.fnOf "" "" ⟨[], [], none, [], [], none, []⟩ [] ⟨.function, [], false, false, []⟩ .none .none .none .none none .none .none
def spL (K : PySem.W.Frag) : Sp := fun vs H Q _ => ∃ a ns, vs = [.ref a] ∧ ScrAt K H a ns ∧ ns.length ≤ 63 ∧ ∀ H', Q (.bl true) H'
theorem law_ok {T : Tb} {k : Nat} {fa : Addr} {fd : FuncData} {ps : List Str} {M : List D → R D} (F : FnOk T.prog T.w T.K T.mg T.base (L2.CX T.prog T.w) k fa fd ps (spB T 1 M)) (pl : ∀ ns : List Int, ns.length ≤ 63 → LawOk (M [.scr ns])) :
    FnOk T.prog T.w T.K T.mg T.base (L2.CX T.prog T.w) k fa fd ps (spL T.K) := by
  have key : ∀ vs H Q E, spL T.K vs H Q E → spB T 1 M vs H Q E := fun vs H Q E ⟨a, ns, e, hs, hl, q⟩ => by
    subst e
    refine ⟨fun _ => False, [.scr ns], fun a z => z.elim, .cons (by simp only [Den]; exact ⟨a, rfl, hs⟩) .nil, rfl, ?_⟩
    exact post_law (pl ns hl) q
  exact ⟨fun vs H Q E h => F.len vs H Q E (key vs H Q E h), fun A outer s H args us vs Q E h1 h2 h3 h4 h5 => F.run A outer s H args us vs Q E h1 h2 h3 h4 (key vs H Q E h5)⟩
theorem sup_b_BadRule : SupB ("part" : Str) "BadRule.__init__" (defArgs (subS 3 0)) (defScope (subS 3 0)) [.non] := fun body Ta kV doc pm an cdv ct cc x u => ⟨fun v => ⟨_, rfl, rfl⟩, ⟨_, rfl, rfl⟩⟩
theorem all_mk {P : Program} {w : World} {K : PySem.W.Frag} {h : Heap} {mg : Str → Option Value} {fa : Addr} (X : K.In h) (G : h.Ns mainGlobals mg) (hfa : mg "law" = some (.ref fa))
    {C0 : Addr} {C1 : Addr} {C2 : Addr} {C3 : Addr} {oc0 : Value} {kV0 : Value} {doc0 : Value} {pm0 : Value} {cdv0 : Value} {ct0 : Value} {od0 : Option Addr} {an0 : Option Addr} {osl0 : Array (Option Value)} {f0 : Addr} {oc1 : Value} {kV1 : Value} {doc1 : Value} {pm1 : Value} {cdv1 : Value} {ct1 : Value} {od1 : Option Addr} {an1 : Option Addr} {osl1 : Array (Option Value)} {f1 : Addr} {oc2 : Value} {kV2 : Value} {doc2 : Value} {pm2 : Value} {cdv2 : Value} {ct2 : Value} {od2 : Option Addr} {an2 : Option Addr} {osl2 : Array (Option Value)} {f2 : Addr} {oc3 : Value} {kV3 : Value} {doc3 : Value} {pm3 : Value} {cdv3 : Value} {ct3 : Value} {od3 : Option Addr} {an3 : Option Addr} {osl3 : Array (Option Value)} {f3 : Addr} {oc4 : Value} {kV4 : Value} {doc4 : Value} {pm4 : Value} {cdv4 : Value} {ct4 : Value} {od4 : Option Addr} {an4 : Option Addr} {osl4 : Array (Option Value)} {f4 : Addr} {oc5 : Value} {kV5 : Value} {doc5 : Value} {pm5 : Value} {cdv5 : Value} {ct5 : Value} {od5 : Option Addr} {an5 : Option Addr} {osl5 : Array (Option Value)} {f5 : Addr} {oc6 : Value} {kV6 : Value} {doc6 : Value} {pm6 : Value} {cdv6 : Value} {ct6 : Value} {od6 : Option Addr} {an6 : Option Addr} {osl6 : Array (Option Value)} {f6 : Addr} {oc7 : Value} {kV7 : Value} {doc7 : Value} {pm7 : Value} {cdv7 : Value} {ct7 : Value} {od7 : Option Addr} {an7 : Option Addr} {osl7 : Array (Option Value)} {f7 : Addr} {oc8 : Value} {kV8 : Value} {doc8 : Value} {pm8 : Value} {cdv8 : Value} {ct8 : Value} {od8 : Option Addr} {an8 : Option Addr} {osl8 : Array (Option Value)} {f8 : Addr} {oc9 : Value} {kV9 : Value} {doc9 : Value} {pm9 : Value} {cdv9 : Value} {ct9 : Value} {od9 : Option Addr} {an9 : Option Addr} {osl9 : Array (Option Value)} {f9 : Addr} {oc10 : Value} {kV10 : Value} {doc10 : Value} {pm10 : Value} {cdv10 : Value} {ct10 : Value} {od10 : Option Addr} {an10 : Option Addr} {osl10 : Array (Option Value)} {f10 : Addr} {oc11 : Value} {kV11 : Value} {doc11 : Value} {pm11 : Value} {cdv11 : Value} {ct11 : Value} {od11 : Option Addr} {an11 : Option Addr} {osl11 : Array (Option Value)} {f11 : Addr} {oc12 : Value} {kV12 : Value} {doc12 : Value} {pm12 : Value} {cdv12 : Value} {ct12 : Value} {od12 : Option Addr} {an12 : Option Addr} {osl12 : Array (Option Value)} {f12 : Addr} {oc13 : Value} {kV13 : Value} {doc13 : Value} {pm13 : Value} {cdv13 : Value} {ct13 : Value} {od13 : Option Addr} {an13 : Option Addr} {osl13 : Array (Option Value)} {f13 : Addr} {oc14 : Value} {doc14 : Value} {pm14 : Value} {cdv14 : Value} {ct14 : Value} {od14 : Option Addr} {an14 : Option Addr} {osl14 : Array (Option Value)} {f14 : Addr} {D14 : Addr} {a0 : Addr} {its0 : Array Value} {tn0 : Nat} {tsl0 : Array (Option Value)} {a1 : Addr} {its1 : Array Value} {tn1 : Nat} {tsl1 : Array (Option Value)} {oc15 : Value} {kV15 : Value} {doc15 : Value} {pm15 : Value} {cdv15 : Value} {ct15 : Value} {od15 : Option Addr} {an15 : Option Addr} {osl15 : Array (Option Value)} {f15 : Addr} {oc16 : Value} {kV16 : Value} {doc16 : Value} {pm16 : Value} {cdv16 : Value} {ct16 : Value} {od16 : Option Addr} {an16 : Option Addr} {osl16 : Array (Option Value)} {f16 : Addr} {oc17 : Value} {kV17 : Value} {doc17 : Value} {pm17 : Value} {cdv17 : Value} {ct17 : Value} {od17 : Option Addr} {an17 : Option Addr} {osl17 : Array (Option Value)} {f17 : Addr} {oc18 : Value} {kV18 : Value} {doc18 : Value} {pm18 : Value} {cdv18 : Value} {ct18 : Value} {od18 : Option Addr} {an18 : Option Addr} {osl18 : Array (Option Value)} {f18 : Addr} {pp18 : Addr} {rest18 : List Value} {oc19 : Value} {kV19 : Value} {doc19 : Value} {pm19 : Value} {cdv19 : Value} {ct19 : Value} {od19 : Option Addr} {an19 : Option Addr} {osl19 : Array (Option Value)} {f19 : Addr} {pp19 : Addr} {rest19 : List Value} {oc20 : Value} {kV20 : Value} {doc20 : Value} {pm20 : Value} {cdv20 : Value} {ct20 : Value} {od20 : Option Addr} {an20 : Option Addr} {osl20 : Array (Option Value)} {f20 : Addr} {pp20 : Addr} {rest20 : List Value} {oc21 : Value} {kV21 : Value} {doc21 : Value} {pm21 : Value} {cdv21 : Value} {ct21 : Value} {od21 : Option Addr} {an21 : Option Addr} {osl21 : Array (Option Value)} {f21 : Addr} {oc22 : Value} {kV22 : Value} {doc22 : Value} {pm22 : Value} {cdv22 : Value} {ct22 : Value} {od22 : Option Addr} {an22 : Option Addr} {osl22 : Array (Option Value)} {f22 : Addr} {oc23 : Value} {kV23 : Value} {doc23 : Value} {pm23 : Value} {cdv23 : Value} {ct23 : Value} {od23 : Option Addr} {an23 : Option Addr} {osl23 : Array (Option Value)} {f23 : Addr} {pp23 : Addr} {rest23 : List Value} {oc24 : Value} {kV24 : Value} {doc24 : Value} {pm24 : Value} {cdv24 : Value} {ct24 : Value} {od24 : Option Addr} {an24 : Option Addr} {osl24 : Array (Option Value)} {f24 : Addr} {pp24 : Addr} {rest24 : List Value} {oc25 : Value} {kV25 : Value} {doc25 : Value} {pm25 : Value} {cdv25 : Value} {ct25 : Value} {od25 : Option Addr} {an25 : Option Addr} {osl25 : Array (Option Value)} {f25 : Addr} {oc26 : Value} {kV26 : Value} {doc26 : Value} {pm26 : Value} {cdv26 : Value} {ct26 : Value} {od26 : Option Addr} {an26 : Option Addr} {osl26 : Array (Option Value)} {f26 : Addr} {pp26 : Addr} {rest26 : List Value} {oc27 : Value} {kV27 : Value} {doc27 : Value} {pm27 : Value} {cdv27 : Value} {ct27 : Value} {od27 : Option Addr} {an27 : Option Addr} {osl27 : Array (Option Value)} {f27 : Addr} {oc28 : Value} {kV28 : Value} {doc28 : Value} {pm28 : Value} {cdv28 : Value} {ct28 : Value} {od28 : Option Addr} {an28 : Option Addr} {osl28 : Array (Option Value)} {f28 : Addr} {oc29 : Value} {kV29 : Value} {doc29 : Value} {pm29 : Value} {cdv29 : Value} {ct29 : Value} {od29 : Option Addr} {an29 : Option Addr} {osl29 : Array (Option Value)} {f29 : Addr} {oc30 : Value} {kV30 : Value} {doc30 : Value} {pm30 : Value} {cdv30 : Value} {ct30 : Value} {od30 : Option Addr} {an30 : Option Addr} {osl30 : Array (Option Value)} {f30 : Addr} {oc31 : Value} {kV31 : Value} {doc31 : Value} {pm31 : Value} {cdv31 : Value} {ct31 : Value} {od31 : Option Addr} {an31 : Option Addr} {osl31 : Array (Option Value)} {f31 : Addr} {oc32 : Value} {kV32 : Value} {doc32 : Value} {pm32 : Value} {cdv32 : Value} {ct32 : Value} {od32 : Option Addr} {an32 : Option Addr} {osl32 : Array (Option Value)} {f32 : Addr} {oc33 : Value} {kV33 : Value} {doc33 : Value} {pm33 : Value} {cdv33 : Value} {ct33 : Value} {od33 : Option Addr} {an33 : Option Addr} {osl33 : Array (Option Value)} {f33 : Addr} {oc34 : Value} {kV34 : Value} {doc34 : Value} {pm34 : Value} {cdv34 : Value} {ct34 : Value} {od34 : Option Addr} {an34 : Option Addr} {osl34 : Array (Option Value)} {f34 : Addr} {oc35 : Value} {kV35 : Value} {doc35 : Value} {pm35 : Value} {cdv35 : Value} {ct35 : Value} {od35 : Option Addr} {an35 : Option Addr} {osl35 : Array (Option Value)} {f35 : Addr} {oc36 : Value} {kV36 : Value} {doc36 : Value} {pm36 : Value} {cdv36 : Value} {ct36 : Value} {od36 : Option Addr} {an36 : Option Addr} {osl36 : Array (Option Value)} {f36 : Addr} {oc37 : Value} {kV37 : Value} {doc37 : Value} {pm37 : Value} {cdv37 : Value} {ct37 : Value} {od37 : Option Addr} {an37 : Option Addr} {osl37 : Array (Option Value)} {f37 : Addr} {oc38 : Value} {kV38 : Value} {doc38 : Value} {pm38 : Value} {cdv38 : Value} {ct38 : Value} {od38 : Option Addr} {an38 : Option Addr} {osl38 : Array (Option Value)} {f38 : Addr} {oc39 : Value} {kV39 : Value} {doc39 : Value} {pm39 : Value} {cdv39 : Value} {ct39 : Value} {od39 : Option Addr} {an39 : Option Addr} {osl39 : Array (Option Value)} {f39 : Addr} {oc40 : Value} {kV40 : Value} {doc40 : Value} {pm40 : Value} {cdv40 : Value} {ct40 : Value} {od40 : Option Addr} {an40 : Option Addr} {osl40 : Array (Option Value)} {f40 : Addr} {oc41 : Value} {kV41 : Value} {doc41 : Value} {pm41 : Value} {cdv41 : Value} {ct41 : Value} {od41 : Option Addr} {an41 : Option Addr} {osl41 : Array (Option Value)} {f41 : Addr} {tk_MOST_ASKS : Tok} {tk_MOST_TELLS : Tok} {a2 : Addr} {its2 : Array Value} {tn2 : Nat} {tsl2 : Array (Option Value)} {a3 : Addr} {its3 : Array Value} {tn3 : Nat} {tsl3 : Array (Option Value)} {a4 : Addr} {its4 : Array Value} {tn4 : Nat} {tsl4 : Array (Option Value)} {a5 : Addr} {its5 : Array Value} {tn5 : Nat} {tsl5 : Array (Option Value)} {a6 : Addr} {its6 : Array Value} {tn6 : Nat} {tsl6 : Array (Option Value)} {a7 : Addr} {its7 : Array Value} {tn7 : Nat} {tsl7 : Array (Option Value)} {a8 : Addr} {its8 : Array Value} {tn8 : Nat} {tsl8 : Array (Option Value)} {a9 : Addr} {its9 : Array Value} {tn9 : Nat} {tsl9 : Array (Option Value)} {a10 : Addr} {its10 : Array Value} {tn10 : Nat} {tsl10 : Array (Option Value)} {a11 : Addr} {its11 : Array Value} {tn11 : Nat} {tsl11 : Array (Option Value)} {a12 : Addr} {its12 : Array Value} {tn12 : Nat} {tsl12 : Array (Option Value)} {a13 : Addr} {its13 : Array Value} {tn13 : Nat} {tsl13 : Array (Option Value)} {a14 : Addr} {its14 : Array Value} {tn14 : Nat} {tsl14 : Array (Option Value)} {a15 : Addr} {its15 : Array Value} {tn15 : Nat} {tsl15 : Array (Option Value)} {nm_BadRule : Str} {qq_BadRule : Str} {NN_BadRule : Addr} {bs_BadRule : List Value} {bm_BadRule : List Value} {sn_BadRule : List Str} {sb_BadRule : List Value} {ab_BadRule : Bool} {co_BadRule : Option Bool} {dd_BadRule : Option Addr} {k0_BadRule : Option Value} {k1_BadRule : Option Value} {k2_BadRule : Option Value} {k3_BadRule : Option Value} {k5_BadRule : Option Value} {fI_BadRule : Addr} {xoc_BadRule : Value} {xod_BadRule : Option Addr} {dT_BadRule : Addr} {xkV_BadRule : Value} {xdoc_BadRule : Value} {xpm_BadRule : Value} {xan_BadRule : Option Addr} {cda_BadRule : Addr} {cc_BadRule : Addr} {xct_BadRule : Value} {xosl_BadRule : Array (Option Value)} {ccl_BadRule : Value} {cdd_BadRule : Option Addr} {cvs_BadRule : Array Value} {ccs_BadRule : Array (Option Value)} {file_BadRule : Str} {tf_BadRule : Tok} {xcl_BadRule : Value} {xcld_BadRule : Option Addr} {csl_BadRule : Array (Option Value)} {oT_BadRule : Obj} {nT_BadRule : Nat} {aT_BadRule : Array Value}
    (gm_Rule : PySem.W.nsIn K mainGlobals ("Rule" : Str) = some (some (.ref C0)))
    (gm_BadRule : PySem.W.nsIn K mainGlobals ("BadRule" : Str) = some (some (.ref C1)))
    (gm_Alike : PySem.W.nsIn K mainGlobals ("Alike" : Str) = some (some (.ref C2)))
    (gm_Parted : PySem.W.nsIn K mainGlobals ("Parted" : Str) = some (some (.ref C3)))
    (m_all : PySem.W.nsIn K mainGlobals ("all" : Str) = some none)
    (m_bool : PySem.W.nsIn K mainGlobals ("bool" : Str) = some none)
    (m_dict : PySem.W.nsIn K mainGlobals ("dict" : Str) = some none)
    (m_enumerate : PySem.W.nsIn K mainGlobals ("enumerate" : Str) = some none)
    (m_int : PySem.W.nsIn K mainGlobals ("int" : Str) = some none)
    (m_isinstance : PySem.W.nsIn K mainGlobals ("isinstance" : Str) = some none)
    (m_len : PySem.W.nsIn K mainGlobals ("len" : Str) = some none)
    (m_list : PySem.W.nsIn K mainGlobals ("list" : Str) = some none)
    (m_max : PySem.W.nsIn K mainGlobals ("max" : Str) = some none)
    (m_min : PySem.W.nsIn K mainGlobals ("min" : Str) = some none)
    (m_range : PySem.W.nsIn K mainGlobals ("range" : Str) = some none)
    (m_str : PySem.W.nsIn K mainGlobals ("str" : Str) = some none)
    (m_sum : PySem.W.nsIn K mainGlobals ("sum" : Str) = some none)
    (m_tuple : PySem.W.nsIn K mainGlobals ("tuple" : Str) = some none)
    (m_zip : PySem.W.nsIn K mainGlobals ("zip" : Str) = some none)
    (fa0 : PySem.W.nsIn K mainGlobals ("_law_number" : Str) = some (some (.ref f0)))
    (fl0 : K.lookup f0 = some ⟨oc0, od0, .func (PySem.W.fnOf ("_law_number" : Str) ("_law_number" : Str) (defArgs s_law_number) (defBody s_law_number) (defScope s_law_number) .none kV0 doc0 pm0 an0 cdv0 ct0), osl0⟩)
    (fc0 : PySem.W.codeIn K cdv0 ("_law_number" : Str) = true)
    (fk0 : PySem.W.keepIn K (.ref f0) = true)
    (fa1 : PySem.W.nsIn K mainGlobals ("_law_take" : Str) = some (some (.ref f1)))
    (fl1 : K.lookup f1 = some ⟨oc1, od1, .func (PySem.W.fnOf ("_law_take" : Str) ("_law_take" : Str) (defArgs s_law_take) (defBody s_law_take) (defScope s_law_take) .none kV1 doc1 pm1 an1 cdv1 ct1), osl1⟩)
    (fc1 : PySem.W.codeIn K cdv1 ("_law_take" : Str) = true)
    (fk1 : PySem.W.keepIn K (.ref f1) = true)
    (fa2 : PySem.W.nsIn K mainGlobals ("_law_pick" : Str) = some (some (.ref f2)))
    (fl2 : K.lookup f2 = some ⟨oc2, od2, .func (PySem.W.fnOf ("_law_pick" : Str) ("_law_pick" : Str) (defArgs s_law_pick) (defBody s_law_pick) (defScope s_law_pick) .none kV2 doc2 pm2 an2 cdv2 ct2), osl2⟩)
    (fc2 : PySem.W.codeIn K cdv2 ("_law_pick" : Str) = true)
    (fk2 : PySem.W.keepIn K (.ref f2) = true)
    (fa3 : PySem.W.nsIn K mainGlobals ("_law_words" : Str) = some (some (.ref f3)))
    (fl3 : K.lookup f3 = some ⟨oc3, od3, .func (PySem.W.fnOf ("_law_words" : Str) ("_law_words" : Str) (defArgs s_law_words) (defBody s_law_words) (defScope s_law_words) .none kV3 doc3 pm3 an3 cdv3 ct3), osl3⟩)
    (fc3 : PySem.W.codeIn K cdv3 ("_law_words" : Str) = true)
    (fk3 : PySem.W.keepIn K (.ref f3) = true)
    (fa4 : PySem.W.nsIn K mainGlobals ("_law_parts" : Str) = some (some (.ref f4)))
    (fl4 : K.lookup f4 = some ⟨oc4, od4, .func (PySem.W.fnOf ("_law_parts" : Str) ("_law_parts" : Str) (defArgs s_law_parts) (defBody s_law_parts) (defScope s_law_parts) .none kV4 doc4 pm4 an4 cdv4 ct4), osl4⟩)
    (fc4 : PySem.W.codeIn K cdv4 ("_law_parts" : Str) = true)
    (fk4 : PySem.W.keepIn K (.ref f4) = true)
    (fa5 : PySem.W.nsIn K mainGlobals ("_law_turns" : Str) = some (some (.ref f5)))
    (fl5 : K.lookup f5 = some ⟨oc5, od5, .func (PySem.W.fnOf ("_law_turns" : Str) ("_law_turns" : Str) (defArgs s_law_turns) (defBody s_law_turns) (defScope s_law_turns) .none kV5 doc5 pm5 an5 cdv5 ct5), osl5⟩)
    (fc5 : PySem.W.codeIn K cdv5 ("_law_turns" : Str) = true)
    (fk5 : PySem.W.keepIn K (.ref f5) = true)
    (fa6 : PySem.W.nsIn K mainGlobals ("_law_own" : Str) = some (some (.ref f6)))
    (fl6 : K.lookup f6 = some ⟨oc6, od6, .func (PySem.W.fnOf ("_law_own" : Str) ("_law_own" : Str) (defArgs s_law_own) (defBody s_law_own) (defScope s_law_own) .none kV6 doc6 pm6 an6 cdv6 ct6), osl6⟩)
    (fc6 : PySem.W.codeIn K cdv6 ("_law_own" : Str) = true)
    (fk6 : PySem.W.keepIn K (.ref f6) = true)
    (fa7 : PySem.W.nsIn K mainGlobals ("_law_heard" : Str) = some (some (.ref f7)))
    (fl7 : K.lookup f7 = some ⟨oc7, od7, .func (PySem.W.fnOf ("_law_heard" : Str) ("_law_heard" : Str) (defArgs s_law_heard) (defBody s_law_heard) (defScope s_law_heard) .none kV7 doc7 pm7 an7 cdv7 ct7), osl7⟩)
    (fc7 : PySem.W.codeIn K cdv7 ("_law_heard" : Str) = true)
    (fk7 : PySem.W.keepIn K (.ref f7) = true)
    (fa8 : PySem.W.nsIn K mainGlobals ("_law_turn" : Str) = some (some (.ref f8)))
    (fl8 : K.lookup f8 = some ⟨oc8, od8, .func (PySem.W.fnOf ("_law_turn" : Str) ("_law_turn" : Str) (defArgs s_law_turn) (defBody s_law_turn) (defScope s_law_turn) .none kV8 doc8 pm8 an8 cdv8 ct8), osl8⟩)
    (fc8 : PySem.W.codeIn K cdv8 ("_law_turn" : Str) = true)
    (fk8 : PySem.W.keepIn K (.ref f8) = true)
    (fa9 : PySem.W.nsIn K mainGlobals ("_law_parted" : Str) = some (some (.ref f9)))
    (fl9 : K.lookup f9 = some ⟨oc9, od9, .func (PySem.W.fnOf ("_law_parted" : Str) ("_law_parted" : Str) (defArgs s_law_parted) (defBody s_law_parted) (defScope s_law_parted) .none kV9 doc9 pm9 an9 cdv9 ct9), osl9⟩)
    (fc9 : PySem.W.codeIn K cdv9 ("_law_parted" : Str) = true)
    (fk9 : PySem.W.keepIn K (.ref f9) = true)
    (fa10 : PySem.W.nsIn K mainGlobals ("_law_reach" : Str) = some (some (.ref f10)))
    (fl10 : K.lookup f10 = some ⟨oc10, od10, .func (PySem.W.fnOf ("_law_reach" : Str) ("_law_reach" : Str) (defArgs s_law_reach) (defBody s_law_reach) (defScope s_law_reach) .none kV10 doc10 pm10 an10 cdv10 ct10), osl10⟩)
    (fc10 : PySem.W.codeIn K cdv10 ("_law_reach" : Str) = true)
    (fk10 : PySem.W.keepIn K (.ref f10) = true)
    (fa11 : PySem.W.nsIn K mainGlobals ("are_words" : Str) = some (some (.ref f11)))
    (fl11 : K.lookup f11 = some ⟨oc11, od11, .func (PySem.W.fnOf ("are_words" : Str) ("are_words" : Str) (defArgs s_are_words) (defBody s_are_words) (defScope s_are_words) .none kV11 doc11 pm11 an11 cdv11 ct11), osl11⟩)
    (fc11 : PySem.W.codeIn K cdv11 ("are_words" : Str) = true)
    (fk11 : PySem.W.keepIn K (.ref f11) = true)
    (fa12 : PySem.W.nsIn K mainGlobals ("is_whole" : Str) = some (some (.ref f12)))
    (fl12 : K.lookup f12 = some ⟨oc12, od12, .func (PySem.W.fnOf ("is_whole" : Str) ("is_whole" : Str) (defArgs s_is_whole) (defBody s_is_whole) (defScope s_is_whole) .none kV12 doc12 pm12 an12 cdv12 ct12), osl12⟩)
    (fc12 : PySem.W.codeIn K cdv12 ("is_whole" : Str) = true)
    (fk12 : PySem.W.keepIn K (.ref f12) = true)
    (fa13 : PySem.W.nsIn K mainGlobals ("wrong_part" : Str) = some (some (.ref f13)))
    (fl13 : K.lookup f13 = some ⟨oc13, od13, .func (PySem.W.fnOf ("wrong_part" : Str) ("wrong_part" : Str) (defArgs s_wrong_part) (defBody s_wrong_part) (defScope s_wrong_part) .none kV13 doc13 pm13 an13 cdv13 ct13), osl13⟩)
    (fc13 : PySem.W.codeIn K cdv13 ("wrong_part" : Str) = true)
    (fk13 : PySem.W.keepIn K (.ref f13) = true)
    (fa14 : PySem.W.findIn K (.ref C0) ("__init__" : Str) = some (some (.ref f14)))
    (fi14 : PySem.W.isFn K (.ref f14) = true)
    (fl14 : K.lookup f14 = some ⟨oc14, od14, .func (PySem.W.fnOf ("__init__" : Str) ("Rule.__init__" : Str) (defArgs s_Rule_init) (defBody s_Rule_init) (defScope s_Rule_init) .none (.ref D14) doc14 pm14 an14 cdv14 ct14), osl14⟩)
    (fc14 : PySem.W.codeIn K cdv14 ("Rule.__init__" : Str) = true)
    (fk14 : PySem.W.keepIn K (.ref f14) = true)
    (ta0 : PySem.W.nsIn K D14 ("meets" : Str) = some (some (.ref a0)))
    (tl0 : K.lookup a0 = some ⟨.type "tuple", none, .seq its0 tn0, tsl0⟩)
    (tv0 : Vals [V.str ("yield" : Str)] its0.toList)
    (ta1 : PySem.W.nsIn K D14 ("stands" : Str) = some (some (.ref a1)))
    (tl1 : K.lookup a1 = some ⟨.type "tuple", none, .seq its1 tn1, tsl1⟩)
    (tv1 : Vals [V.str ("lesser" : Str)] its1.toList)
    (kd14_answers : PySem.W.nsIn K D14 ("answers" : Str) = some (some (.bool true)))
    (kd14_again : PySem.W.nsIn K D14 ("again" : Str) = some (some (.bool true)))
    (fa15 : PySem.W.nsIn K mainGlobals ("_law_made" : Str) = some (some (.ref f15)))
    (fl15 : K.lookup f15 = some ⟨oc15, od15, .func (PySem.W.fnOf ("_law_made" : Str) ("_law_made" : Str) (defArgs s_law_made) (defBody s_law_made) (defScope s_law_made) .none kV15 doc15 pm15 an15 cdv15 ct15), osl15⟩)
    (fc15 : PySem.W.codeIn K cdv15 ("_law_made" : Str) = true)
    (fk15 : PySem.W.keepIn K (.ref f15) = true)
    (fa16 : PySem.W.nsIn K mainGlobals ("check_rule" : Str) = some (some (.ref f16)))
    (fl16 : K.lookup f16 = some ⟨oc16, od16, .func (PySem.W.fnOf ("check_rule" : Str) ("check_rule" : Str) (defArgs s_check_rule) (defBody s_check_rule) (defScope s_check_rule) .none kV16 doc16 pm16 an16 cdv16 ct16), osl16⟩)
    (fc16 : PySem.W.codeIn K cdv16 ("check_rule" : Str) = true)
    (fk16 : PySem.W.keepIn K (.ref f16) = true)
    (fa17 : PySem.W.nsIn K mainGlobals ("check_two" : Str) = some (some (.ref f17)))
    (fl17 : K.lookup f17 = some ⟨oc17, od17, .func (PySem.W.fnOf ("check_two" : Str) ("check_two" : Str) (defArgs s_check_two) (defBody s_check_two) (defScope s_check_two) .none kV17 doc17 pm17 an17 cdv17 ct17), osl17⟩)
    (fc17 : PySem.W.codeIn K cdv17 ("check_two" : Str) = true)
    (fk17 : PySem.W.keepIn K (.ref f17) = true)
    (pa18 : PySem.W.findIn K (.ref C0) ("asks" : Str) = some (some (.ref pp18)))
    (pb18 : PySem.W.recIn K pp18 "property" = some (.ref f18 :: rest18))
    (pc18 : PySem.W.specialIn K (.ref pp18) "__get__" = some (some (.builtin "property.__get__")))
    (pd18 : PySem.W.takesIn K (.ref pp18) = some true)
    (fl18 : K.lookup f18 = some ⟨oc18, od18, .func (PySem.W.fnOf ("asks" : Str) ("Rule.asks" : Str) (defArgs s_Rule_asks) (defBody s_Rule_asks) (defScope s_Rule_asks) .none kV18 doc18 pm18 an18 cdv18 ct18), osl18⟩)
    (fc18 : PySem.W.codeIn K cdv18 ("Rule.asks" : Str) = true)
    (fk18 : PySem.W.keepIn K (.ref f18) = true)
    (pa19 : PySem.W.findIn K (.ref C0) ("tells" : Str) = some (some (.ref pp19)))
    (pb19 : PySem.W.recIn K pp19 "property" = some (.ref f19 :: rest19))
    (pc19 : PySem.W.specialIn K (.ref pp19) "__get__" = some (some (.builtin "property.__get__")))
    (pd19 : PySem.W.takesIn K (.ref pp19) = some true)
    (fl19 : K.lookup f19 = some ⟨oc19, od19, .func (PySem.W.fnOf ("tells" : Str) ("Rule.tells" : Str) (defArgs s_Rule_tells) (defBody s_Rule_tells) (defScope s_Rule_tells) .none kV19 doc19 pm19 an19 cdv19 ct19), osl19⟩)
    (fc19 : PySem.W.codeIn K cdv19 ("Rule.tells" : Str) = true)
    (fk19 : PySem.W.keepIn K (.ref f19) = true)
    (pa20 : PySem.W.findIn K (.ref C0) ("again" : Str) = some (some (.ref pp20)))
    (pb20 : PySem.W.recIn K pp20 "property" = some (.ref f20 :: rest20))
    (pc20 : PySem.W.specialIn K (.ref pp20) "__get__" = some (some (.builtin "property.__get__")))
    (pd20 : PySem.W.takesIn K (.ref pp20) = some true)
    (fl20 : K.lookup f20 = some ⟨oc20, od20, .func (PySem.W.fnOf ("again" : Str) ("Rule.again" : Str) (defArgs s_Rule_again) (defBody s_Rule_again) (defScope s_Rule_again) .none kV20 doc20 pm20 an20 cdv20 ct20), osl20⟩)
    (fc20 : PySem.W.codeIn K cdv20 ("Rule.again" : Str) = true)
    (fk20 : PySem.W.keepIn K (.ref f20) = true)
    (fa21 : PySem.W.nsIn K mainGlobals ("own" : Str) = some (some (.ref f21)))
    (fl21 : K.lookup f21 = some ⟨oc21, od21, .func (PySem.W.fnOf ("own" : Str) ("own" : Str) (defArgs s_own) (defBody s_own) (defScope s_own) .none kV21 doc21 pm21 an21 cdv21 ct21), osl21⟩)
    (fc21 : PySem.W.codeIn K cdv21 ("own" : Str) = true)
    (fk21 : PySem.W.keepIn K (.ref f21) = true)
    (fa22 : PySem.W.nsIn K mainGlobals ("gives_way" : Str) = some (some (.ref f22)))
    (fl22 : K.lookup f22 = some ⟨oc22, od22, .func (PySem.W.fnOf ("gives_way" : Str) ("gives_way" : Str) (defArgs s_gives_way) (defBody s_gives_way) (defScope s_gives_way) .none kV22 doc22 pm22 an22 cdv22 ct22), osl22⟩)
    (fc22 : PySem.W.codeIn K cdv22 ("gives_way" : Str) = true)
    (fk22 : PySem.W.keepIn K (.ref f22) = true)
    (pa23 : PySem.W.findIn K (.ref C0) ("meets" : Str) = some (some (.ref pp23)))
    (pb23 : PySem.W.recIn K pp23 "property" = some (.ref f23 :: rest23))
    (pc23 : PySem.W.specialIn K (.ref pp23) "__get__" = some (some (.builtin "property.__get__")))
    (pd23 : PySem.W.takesIn K (.ref pp23) = some true)
    (fl23 : K.lookup f23 = some ⟨oc23, od23, .func (PySem.W.fnOf ("meets" : Str) ("Rule.meets" : Str) (defArgs s_Rule_meets) (defBody s_Rule_meets) (defScope s_Rule_meets) .none kV23 doc23 pm23 an23 cdv23 ct23), osl23⟩)
    (fc23 : PySem.W.codeIn K cdv23 ("Rule.meets" : Str) = true)
    (fk23 : PySem.W.keepIn K (.ref f23) = true)
    (pa24 : PySem.W.findIn K (.ref C0) ("stands" : Str) = some (some (.ref pp24)))
    (pb24 : PySem.W.recIn K pp24 "property" = some (.ref f24 :: rest24))
    (pc24 : PySem.W.specialIn K (.ref pp24) "__get__" = some (some (.builtin "property.__get__")))
    (pd24 : PySem.W.takesIn K (.ref pp24) = some true)
    (fl24 : K.lookup f24 = some ⟨oc24, od24, .func (PySem.W.fnOf ("stands" : Str) ("Rule.stands" : Str) (defArgs s_Rule_stands) (defBody s_Rule_stands) (defScope s_Rule_stands) .none kV24 doc24 pm24 an24 cdv24 ct24), osl24⟩)
    (fc24 : PySem.W.codeIn K cdv24 ("Rule.stands" : Str) = true)
    (fk24 : PySem.W.keepIn K (.ref f24) = true)
    (fa25 : PySem.W.nsIn K mainGlobals ("heard" : Str) = some (some (.ref f25)))
    (fl25 : K.lookup f25 = some ⟨oc25, od25, .func (PySem.W.fnOf ("heard" : Str) ("heard" : Str) (defArgs s_heard) (defBody s_heard) (defScope s_heard) .none kV25 doc25 pm25 an25 cdv25 ct25), osl25⟩)
    (fc25 : PySem.W.codeIn K cdv25 ("heard" : Str) = true)
    (fk25 : PySem.W.keepIn K (.ref f25) = true)
    (pa26 : PySem.W.findIn K (.ref C0) ("answers" : Str) = some (some (.ref pp26)))
    (pb26 : PySem.W.recIn K pp26 "property" = some (.ref f26 :: rest26))
    (pc26 : PySem.W.specialIn K (.ref pp26) "__get__" = some (some (.builtin "property.__get__")))
    (pd26 : PySem.W.takesIn K (.ref pp26) = some true)
    (fl26 : K.lookup f26 = some ⟨oc26, od26, .func (PySem.W.fnOf ("answers" : Str) ("Rule.answers" : Str) (defArgs s_Rule_answers) (defBody s_Rule_answers) (defScope s_Rule_answers) .none kV26 doc26 pm26 an26 cdv26 ct26), osl26⟩)
    (fc26 : PySem.W.codeIn K cdv26 ("Rule.answers" : Str) = true)
    (fk26 : PySem.W.keepIn K (.ref f26) = true)
    (fa27 : PySem.W.nsIn K mainGlobals ("replies" : Str) = some (some (.ref f27)))
    (fl27 : K.lookup f27 = some ⟨oc27, od27, .func (PySem.W.fnOf ("replies" : Str) ("replies" : Str) (defArgs s_replies) (defBody s_replies) (defScope s_replies) .none kV27 doc27 pm27 an27 cdv27 ct27), osl27⟩)
    (fc27 : PySem.W.codeIn K cdv27 ("replies" : Str) = true)
    (fk27 : PySem.W.keepIn K (.ref f27) = true)
    (fa28 : PySem.W.nsIn K mainGlobals ("turned" : Str) = some (some (.ref f28)))
    (fl28 : K.lookup f28 = some ⟨oc28, od28, .func (PySem.W.fnOf ("turned" : Str) ("turned" : Str) (defArgs s_turned) (defBody s_turned) (defScope s_turned) .none kV28 doc28 pm28 an28 cdv28 ct28), osl28⟩)
    (fc28 : PySem.W.codeIn K cdv28 ("turned" : Str) = true)
    (fk28 : PySem.W.keepIn K (.ref f28) = true)
    (fa29 : PySem.W.nsIn K mainGlobals ("is_parted" : Str) = some (some (.ref f29)))
    (fl29 : K.lookup f29 = some ⟨oc29, od29, .func (PySem.W.fnOf ("is_parted" : Str) ("is_parted" : Str) (defArgs s_is_parted) (defBody s_is_parted) (defScope s_is_parted) .none kV29 doc29 pm29 an29 cdv29 ct29), osl29⟩)
    (fc29 : PySem.W.codeIn K cdv29 ("is_parted" : Str) = true)
    (fk29 : PySem.W.keepIn K (.ref f29) = true)
    (fa30 : PySem.W.findIn K (.ref C2) ("shows" : Str) = some (some (.ref f30)))
    (fi30 : PySem.W.isFn K (.ref f30) = true)
    (fl30 : K.lookup f30 = some ⟨oc30, od30, .func (PySem.W.fnOf ("shows" : Str) ("Alike.shows" : Str) (defArgs s_Alike_shows) (defBody s_Alike_shows) (defScope s_Alike_shows) .none kV30 doc30 pm30 an30 cdv30 ct30), osl30⟩)
    (fc30 : PySem.W.codeIn K cdv30 ("Alike.shows" : Str) = true)
    (fk30 : PySem.W.keepIn K (.ref f30) = true)
    (fa31 : PySem.W.findIn K (.ref C2) ("__init__" : Str) = some (some (.ref f31)))
    (fi31 : PySem.W.isFn K (.ref f31) = true)
    (fl31 : K.lookup f31 = some ⟨oc31, od31, .func (PySem.W.fnOf ("__init__" : Str) ("Alike.__init__" : Str) (defArgs s_Alike_init) (defBody s_Alike_init) (defScope s_Alike_init) .none kV31 doc31 pm31 an31 cdv31 ct31), osl31⟩)
    (fc31 : PySem.W.codeIn K cdv31 ("Alike.__init__" : Str) = true)
    (fk31 : PySem.W.keepIn K (.ref f31) = true)
    (fa32 : PySem.W.nsIn K mainGlobals ("_law_is_alike" : Str) = some (some (.ref f32)))
    (fl32 : K.lookup f32 = some ⟨oc32, od32, .func (PySem.W.fnOf ("_law_is_alike" : Str) ("_law_is_alike" : Str) (defArgs s_law_is_alike) (defBody s_law_is_alike) (defScope s_law_is_alike) .none kV32 doc32 pm32 an32 cdv32 ct32), osl32⟩)
    (fc32 : PySem.W.codeIn K cdv32 ("_law_is_alike" : Str) = true)
    (fk32 : PySem.W.keepIn K (.ref f32) = true)
    (fa33 : PySem.W.nsIn K mainGlobals ("_law_lists_right" : Str) = some (some (.ref f33)))
    (fl33 : K.lookup f33 = some ⟨oc33, od33, .func (PySem.W.fnOf ("_law_lists_right" : Str) ("_law_lists_right" : Str) (defArgs s_law_lists_right) (defBody s_law_lists_right) (defScope s_law_lists_right) .none kV33 doc33 pm33 an33 cdv33 ct33), osl33⟩)
    (fc33 : PySem.W.codeIn K cdv33 ("_law_lists_right" : Str) = true)
    (fk33 : PySem.W.keepIn K (.ref f33) = true)
    (fa34 : PySem.W.findIn K (.ref C3) ("shows" : Str) = some (some (.ref f34)))
    (fi34 : PySem.W.isFn K (.ref f34) = true)
    (fl34 : K.lookup f34 = some ⟨oc34, od34, .func (PySem.W.fnOf ("shows" : Str) ("Parted.shows" : Str) (defArgs s_Parted_shows) (defBody s_Parted_shows) (defScope s_Parted_shows) .none kV34 doc34 pm34 an34 cdv34 ct34), osl34⟩)
    (fc34 : PySem.W.codeIn K cdv34 ("Parted.shows" : Str) = true)
    (fk34 : PySem.W.keepIn K (.ref f34) = true)
    (fa35 : PySem.W.findIn K (.ref C3) ("__init__" : Str) = some (some (.ref f35)))
    (fi35 : PySem.W.isFn K (.ref f35) = true)
    (fl35 : K.lookup f35 = some ⟨oc35, od35, .func (PySem.W.fnOf ("__init__" : Str) ("Parted.__init__" : Str) (defArgs s_Parted_init) (defBody s_Parted_init) (defScope s_Parted_init) .none kV35 doc35 pm35 an35 cdv35 ct35), osl35⟩)
    (fc35 : PySem.W.codeIn K cdv35 ("Parted.__init__" : Str) = true)
    (fk35 : PySem.W.keepIn K (.ref f35) = true)
    (fa36 : PySem.W.nsIn K mainGlobals ("_law_is_parting" : Str) = some (some (.ref f36)))
    (fl36 : K.lookup f36 = some ⟨oc36, od36, .func (PySem.W.fnOf ("_law_is_parting" : Str) ("_law_is_parting" : Str) (defArgs s_law_is_parting) (defBody s_law_is_parting) (defScope s_law_is_parting) .none kV36 doc36 pm36 an36 cdv36 ct36), osl36⟩)
    (fc36 : PySem.W.codeIn K cdv36 ("_law_is_parting" : Str) = true)
    (fk36 : PySem.W.keepIn K (.ref f36) = true)
    (fa37 : PySem.W.nsIn K mainGlobals ("_law_rows_right" : Str) = some (some (.ref f37)))
    (fl37 : K.lookup f37 = some ⟨oc37, od37, .func (PySem.W.fnOf ("_law_rows_right" : Str) ("_law_rows_right" : Str) (defArgs s_law_rows_right) (defBody s_law_rows_right) (defScope s_law_rows_right) .none kV37 doc37 pm37 an37 cdv37 ct37), osl37⟩)
    (fc37 : PySem.W.codeIn K cdv37 ("_law_rows_right" : Str) = true)
    (fk37 : PySem.W.keepIn K (.ref f37) = true)
    (fa38 : PySem.W.findIn K (.ref C2) ("__eq__" : Str) = some (some (.ref f38)))
    (fi38 : PySem.W.isFn K (.ref f38) = true)
    (fl38 : K.lookup f38 = some ⟨oc38, od38, .func (PySem.W.fnOf ("__eq__" : Str) ("Alike.__eq__" : Str) (defArgs s_Alike_eq) (defBody s_Alike_eq) (defScope s_Alike_eq) .none kV38 doc38 pm38 an38 cdv38 ct38), osl38⟩)
    (fc38 : PySem.W.codeIn K cdv38 ("Alike.__eq__" : Str) = true)
    (fk38 : PySem.W.keepIn K (.ref f38) = true)
    (fa39 : PySem.W.findIn K (.ref C3) ("__eq__" : Str) = some (some (.ref f39)))
    (fi39 : PySem.W.isFn K (.ref f39) = true)
    (fl39 : K.lookup f39 = some ⟨oc39, od39, .func (PySem.W.fnOf ("__eq__" : Str) ("Parted.__eq__" : Str) (defArgs s_Parted_eq) (defBody s_Parted_eq) (defScope s_Parted_eq) .none kV39 doc39 pm39 an39 cdv39 ct39), osl39⟩)
    (fc39 : PySem.W.codeIn K cdv39 ("Parted.__eq__" : Str) = true)
    (fk39 : PySem.W.keepIn K (.ref f39) = true)
    (fa40 : PySem.W.nsIn K mainGlobals ("_law_equal_right" : Str) = some (some (.ref f40)))
    (fl40 : K.lookup f40 = some ⟨oc40, od40, .func (PySem.W.fnOf ("_law_equal_right" : Str) ("_law_equal_right" : Str) (defArgs s_law_equal_right) (defBody s_law_equal_right) (defScope s_law_equal_right) .none kV40 doc40 pm40 an40 cdv40 ct40), osl40⟩)
    (fc40 : PySem.W.codeIn K cdv40 ("_law_equal_right" : Str) = true)
    (fk40 : PySem.W.keepIn K (.ref f40) = true)
    (fa41 : PySem.W.nsIn K mainGlobals ("law" : Str) = some (some (.ref f41)))
    (fl41 : K.lookup f41 = some ⟨oc41, od41, .func (PySem.W.fnOf ("law" : Str) ("law" : Str) (defArgs s_law) (defBody s_law) (defScope s_law) .none kV41 doc41 pm41 an41 cdv41 ct41), osl41⟩)
    (fc41 : PySem.W.codeIn K cdv41 ("law" : Str) = true)
    (fk41 : PySem.W.keepIn K (.ref f41) = true)
    (k_MOST_ASKS : PySem.W.nsIn K mainGlobals ("MOST_ASKS" : Str) = some (some (.int 9 tk_MOST_ASKS)))
    (k_MOST_TELLS : PySem.W.nsIn K mainGlobals ("MOST_TELLS" : Str) = some (some (.int 3 tk_MOST_TELLS)))
    (ta2 : PySem.W.nsIn K mainGlobals ("PARTS" : Str) = some (some (.ref a2)))
    (tl2 : K.lookup a2 = some ⟨.type "tuple", none, .seq its2 tn2, tsl2⟩)
    (tv2 : Vals [V.str ("asks" : Str), V.str ("tells" : Str), V.str ("meets" : Str), V.str ("stands" : Str), V.str ("answers" : Str), V.str ("again" : Str)] its2.toList)
    (ta3 : PySem.W.nsIn K mainGlobals ("TURNS" : Str) = some (some (.ref a3)))
    (tl3 : K.lookup a3 = some ⟨.type "tuple", none, .seq its3 tn3, tsl3⟩)
    (tv3 : Vals [V.ref a4, V.ref a5, V.ref a6, V.ref a7, V.ref a8, V.ref a9, V.ref a10, V.ref a11, V.ref a12, V.ref a13, V.ref a14] its3.toList)
    (tl4 : K.lookup a4 = some ⟨.type "tuple", none, .seq its4 tn4, tsl4⟩)
    (tv4 : Vals [V.str ("pick" : Str), V.non] its4.toList)
    (tl5 : K.lookup a5 = some ⟨.type "tuple", none, .seq its5 tn5, tsl5⟩)
    (tv5 : Vals [V.str ("ask" : Str), V.non] its5.toList)
    (tl6 : K.lookup a6 = some ⟨.type "tuple", none, .seq its6 tn6, tsl6⟩)
    (tv6 : Vals [V.str ("take" : Str), V.non] its6.toList)
    (tl7 : K.lookup a7 = some ⟨.type "tuple", none, .seq its7 tn7, tsl7⟩)
    (tv7 : Vals [V.str ("tell" : Str), V.non] its7.toList)
    (tl8 : K.lookup a8 = some ⟨.type "tuple", none, .seq its8 tn8, tsl8⟩)
    (tv8 : Vals [V.str ("leave" : Str), V.non] its8.toList)
    (tl9 : K.lookup a9 = some ⟨.type "tuple", none, .seq its9 tn9, tsl9⟩)
    (tv9 : Vals [V.str ("ask" : Str), V.str ("greater" : Str)] its9.toList)
    (tl10 : K.lookup a10 = some ⟨.type "tuple", none, .seq its10 tn10, tsl10⟩)
    (tv10 : Vals [V.str ("ask" : Str), V.str ("lesser" : Str)] its10.toList)
    (tl11 : K.lookup a11 = some ⟨.type "tuple", none, .seq its11 tn11, tsl11⟩)
    (tv11 : Vals [V.str ("tell" : Str), V.str ("greater" : Str)] its11.toList)
    (tl12 : K.lookup a12 = some ⟨.type "tuple", none, .seq its12 tn12, tsl12⟩)
    (tv12 : Vals [V.str ("tell" : Str), V.str ("lesser" : Str)] its12.toList)
    (tl13 : K.lookup a13 = some ⟨.type "tuple", none, .seq its13 tn13, tsl13⟩)
    (tv13 : Vals [V.str ("answer" : Str), V.str ("greater" : Str)] its13.toList)
    (tl14 : K.lookup a14 = some ⟨.type "tuple", none, .seq its14 tn14, tsl14⟩)
    (tv14 : Vals [V.str ("answer" : Str), V.str ("lesser" : Str)] its14.toList)
    (ta15 : PySem.W.nsIn K mainGlobals ("WORDS" : Str) = some (some (.ref a15)))
    (tl15 : K.lookup a15 = some ⟨.type "tuple", none, .seq its15 tn15, tsl15⟩)
    (tv15 : Vals [V.str ("lesser" : Str), V.str ("stay" : Str), V.str ("yield" : Str)] its15.toList)
    (cl1_Rule : PySem.W.plainGet K C0 Str.empty = true)
    (cl2_Rule : PySem.W.hasDictIn K C0 = true)
    (cl3_Rule : PySem.W.plainOver K C0 = true)
    (cl4_Rule : PySem.W.findIn K (.ref C0) "__setattr__" = some (some (.builtin "object.__setattr__")))
    (mk1_Rule : PySem.W.makesIn K C0 = true)
    (mk2_Rule : PySem.W.keepIn K (.ref C0) = true)
    (na_Rule_row : PySem.W.findIn K (.ref C0) ("row" : Str) = some none)
    (cl1_Alike : PySem.W.plainGet K C2 Str.empty = true)
    (cl2_Alike : PySem.W.hasDictIn K C2 = true)
    (cl3_Alike : PySem.W.plainOver K C2 = true)
    (cl4_Alike : PySem.W.findIn K (.ref C2) "__setattr__" = some (some (.builtin "object.__setattr__")))
    (mk1_Alike : PySem.W.makesIn K C2 = true)
    (mk2_Alike : PySem.W.keepIn K (.ref C2) = true)
    (na_Alike_legs : PySem.W.findIn K (.ref C2) ("legs" : Str) = some none)
    (cl1_Parted : PySem.W.plainGet K C3 Str.empty = true)
    (cl2_Parted : PySem.W.hasDictIn K C3 = true)
    (cl3_Parted : PySem.W.plainOver K C3 = true)
    (cl4_Parted : PySem.W.findIn K (.ref C3) "__setattr__" = some (some (.builtin "object.__setattr__")))
    (mk1_Parted : PySem.W.makesIn K C3 = true)
    (mk2_Parted : PySem.W.keepIn K (.ref C3) = true)
    (na_Parted_turns : PySem.W.findIn K (.ref C3) ("turns" : Str) = some none)
    (i1_Rule : PySem.W.findIn K (.ref (C0)) "__class__" = some (some (.builtin "object.__class__")))
    (i2_Rule : PySem.W.mroIn K (C0) (.type "object") = some true)
    (i3_Rule_int : PySem.W.kitOne K (.ref (C0)) (.type "int") = some false)
    (i3_Rule_str : PySem.W.kitOne K (.ref (C0)) (.type "str") = some false)
    (i3_Rule_bool : PySem.W.kitOne K (.ref (C0)) (.type "bool") = some false)
    (i3_Rule_tuple : PySem.W.kitOne K (.ref (C0)) (.type "tuple") = some false)
    (i3_Rule_list : PySem.W.kitOne K (.ref (C0)) (.type "list") = some false)
    (i3_Rule_dict : PySem.W.kitOne K (.ref (C0)) (.type "dict") = some false)
    (i4_Rule_NoneType : PySem.W.kitOne K (.type "NoneType") (.ref (C0)) = some false)
    (i5_Rule_NoneType : PySem.W.subIn K (.type "NoneType") (.ref (C0)) = some false)
    (i4_Rule_bool : PySem.W.kitOne K (.type "bool") (.ref (C0)) = some false)
    (i5_Rule_bool : PySem.W.subIn K (.type "bool") (.ref (C0)) = some false)
    (i4_Rule_int : PySem.W.kitOne K (.type "int") (.ref (C0)) = some false)
    (i5_Rule_int : PySem.W.subIn K (.type "int") (.ref (C0)) = some false)
    (i4_Rule_str : PySem.W.kitOne K (.type "str") (.ref (C0)) = some false)
    (i5_Rule_str : PySem.W.subIn K (.type "str") (.ref (C0)) = some false)
    (i4_Rule_tuple : PySem.W.kitOne K (.type "tuple") (.ref (C0)) = some false)
    (i5_Rule_tuple : PySem.W.subIn K (.type "tuple") (.ref (C0)) = some false)
    (i4_Rule_list : PySem.W.kitOne K (.type "list") (.ref (C0)) = some false)
    (i5_Rule_list : PySem.W.subIn K (.type "list") (.ref (C0)) = some false)
    (i4_Rule_dict : PySem.W.kitOne K (.type "dict") (.ref (C0)) = some false)
    (i5_Rule_dict : PySem.W.subIn K (.type "dict") (.ref (C0)) = some false)
    (i6_Rule_Rule : PySem.W.kitOne K (.ref (C0)) (.ref (C0)) = some true)
    (i6_Rule_Alike : PySem.W.kitOne K (.ref (C0)) (.ref (C2)) = some false)
    (i6_Rule_Parted : PySem.W.kitOne K (.ref (C0)) (.ref (C3)) = some false)
    (ne_Rule : PySem.W.findIn K (.ref (C0)) "__ne__" = some (some (.builtin "object.__ne__")))
    (i1_Alike : PySem.W.findIn K (.ref (C2)) "__class__" = some (some (.builtin "object.__class__")))
    (i2_Alike : PySem.W.mroIn K (C2) (.type "object") = some true)
    (i3_Alike_int : PySem.W.kitOne K (.ref (C2)) (.type "int") = some false)
    (i3_Alike_str : PySem.W.kitOne K (.ref (C2)) (.type "str") = some false)
    (i3_Alike_bool : PySem.W.kitOne K (.ref (C2)) (.type "bool") = some false)
    (i3_Alike_tuple : PySem.W.kitOne K (.ref (C2)) (.type "tuple") = some false)
    (i3_Alike_list : PySem.W.kitOne K (.ref (C2)) (.type "list") = some false)
    (i3_Alike_dict : PySem.W.kitOne K (.ref (C2)) (.type "dict") = some false)
    (i4_Alike_NoneType : PySem.W.kitOne K (.type "NoneType") (.ref (C2)) = some false)
    (i5_Alike_NoneType : PySem.W.subIn K (.type "NoneType") (.ref (C2)) = some false)
    (i4_Alike_bool : PySem.W.kitOne K (.type "bool") (.ref (C2)) = some false)
    (i5_Alike_bool : PySem.W.subIn K (.type "bool") (.ref (C2)) = some false)
    (i4_Alike_int : PySem.W.kitOne K (.type "int") (.ref (C2)) = some false)
    (i5_Alike_int : PySem.W.subIn K (.type "int") (.ref (C2)) = some false)
    (i4_Alike_str : PySem.W.kitOne K (.type "str") (.ref (C2)) = some false)
    (i5_Alike_str : PySem.W.subIn K (.type "str") (.ref (C2)) = some false)
    (i4_Alike_tuple : PySem.W.kitOne K (.type "tuple") (.ref (C2)) = some false)
    (i5_Alike_tuple : PySem.W.subIn K (.type "tuple") (.ref (C2)) = some false)
    (i4_Alike_list : PySem.W.kitOne K (.type "list") (.ref (C2)) = some false)
    (i5_Alike_list : PySem.W.subIn K (.type "list") (.ref (C2)) = some false)
    (i4_Alike_dict : PySem.W.kitOne K (.type "dict") (.ref (C2)) = some false)
    (i5_Alike_dict : PySem.W.subIn K (.type "dict") (.ref (C2)) = some false)
    (i6_Alike_Rule : PySem.W.kitOne K (.ref (C2)) (.ref (C0)) = some false)
    (i6_Alike_Alike : PySem.W.kitOne K (.ref (C2)) (.ref (C2)) = some true)
    (i6_Alike_Parted : PySem.W.kitOne K (.ref (C2)) (.ref (C3)) = some false)
    (ne_Alike : PySem.W.findIn K (.ref (C2)) "__ne__" = some (some (.builtin "object.__ne__")))
    (i1_Parted : PySem.W.findIn K (.ref (C3)) "__class__" = some (some (.builtin "object.__class__")))
    (i2_Parted : PySem.W.mroIn K (C3) (.type "object") = some true)
    (i3_Parted_int : PySem.W.kitOne K (.ref (C3)) (.type "int") = some false)
    (i3_Parted_str : PySem.W.kitOne K (.ref (C3)) (.type "str") = some false)
    (i3_Parted_bool : PySem.W.kitOne K (.ref (C3)) (.type "bool") = some false)
    (i3_Parted_tuple : PySem.W.kitOne K (.ref (C3)) (.type "tuple") = some false)
    (i3_Parted_list : PySem.W.kitOne K (.ref (C3)) (.type "list") = some false)
    (i3_Parted_dict : PySem.W.kitOne K (.ref (C3)) (.type "dict") = some false)
    (i4_Parted_NoneType : PySem.W.kitOne K (.type "NoneType") (.ref (C3)) = some false)
    (i5_Parted_NoneType : PySem.W.subIn K (.type "NoneType") (.ref (C3)) = some false)
    (i4_Parted_bool : PySem.W.kitOne K (.type "bool") (.ref (C3)) = some false)
    (i5_Parted_bool : PySem.W.subIn K (.type "bool") (.ref (C3)) = some false)
    (i4_Parted_int : PySem.W.kitOne K (.type "int") (.ref (C3)) = some false)
    (i5_Parted_int : PySem.W.subIn K (.type "int") (.ref (C3)) = some false)
    (i4_Parted_str : PySem.W.kitOne K (.type "str") (.ref (C3)) = some false)
    (i5_Parted_str : PySem.W.subIn K (.type "str") (.ref (C3)) = some false)
    (i4_Parted_tuple : PySem.W.kitOne K (.type "tuple") (.ref (C3)) = some false)
    (i5_Parted_tuple : PySem.W.subIn K (.type "tuple") (.ref (C3)) = some false)
    (i4_Parted_list : PySem.W.kitOne K (.type "list") (.ref (C3)) = some false)
    (i5_Parted_list : PySem.W.subIn K (.type "list") (.ref (C3)) = some false)
    (i4_Parted_dict : PySem.W.kitOne K (.type "dict") (.ref (C3)) = some false)
    (i5_Parted_dict : PySem.W.subIn K (.type "dict") (.ref (C3)) = some false)
    (i6_Parted_Rule : PySem.W.kitOne K (.ref (C3)) (.ref (C0)) = some false)
    (i6_Parted_Alike : PySem.W.kitOne K (.ref (C3)) (.ref (C2)) = some false)
    (i6_Parted_Parted : PySem.W.kitOne K (.ref (C3)) (.ref (C3)) = some true)
    (ne_Parted : PySem.W.findIn K (.ref (C3)) "__ne__" = some (some (.builtin "object.__ne__")))
    (su_Parted_Alike : PySem.W.subIn K (.ref (C3)) (.ref (C2)) = some false)
    (o1 : PySem.W.specialIn K (.builtin "object.__class__") "__get__" = some (some (.builtin "getset_descriptor.__get__")))
    (o2 : PySem.W.takesIn K (.builtin "object.__class__") = some true)
    (xc_BadRule : K.lookup C1 = some (excClassObj nm_BadRule qq_BadRule C1 NN_BadRule bs_BadRule bm_BadRule true sn_BadRule sb_BadRule ab_BadRule co_BadRule dd_BadRule k0_BadRule k1_BadRule k2_BadRule k3_BadRule k5_BadRule "ValueError.__new__"))
    (xb_BadRule : PySem.HandSPX.refsVE bm_BadRule = true)
    (x1_BadRule : PySem.W.findIn K (.ref C1) "__setattr__" = some (some (.builtin "object.__setattr__")))
    (x2_BadRule : PySem.W.findIn K (.ref C1) ("part" : Str) = some none)
    (x3_BadRule : PySem.W.findIn K (.ref C1) "__init__" = some (some (.ref fI_BadRule)))
    (x4_BadRule : PySem.W.typeIn K (.ref fI_BadRule) = some (.type "function"))
    (x5_BadRule : PySem.W.keepIn K (.ref C1) = true)
    (x6_BadRule : PySem.W.subIn K (.ref C1) (.type "BaseException") = some true)
    (x7_BadRule : PySem.W.subIn K (.ref C1) (.type "ValueError") = some true)
    (x8_BadRule : PySem.W.typeIn K (.ref C1) = some (.type "type"))
    (x9_BadRule : PySem.W.ks_superIn K C1 C1 "__init__" = some (some (.builtin "ValueError.__init__")))
    (xa_BadRule : PySem.W.mroIn K C1 (.ref C1) = some true)
    (xd_BadRule : PySem.W.nsIn K cStatics "thirdparty.any" = some none)
    (xe_BadRule : PySem.W.nsIn K mainGlobals "super" = some none)
    (xf_BadRule : (P.main.scope.names.lookup ("super" : Str)).isSome = false)
    (xg_BadRule : K.lookup fI_BadRule = some ⟨xoc_BadRule, xod_BadRule, .func (PySem.W.ksFn "__init__" ("BadRule.__init__" : Str) (defArgs (subS 3 0)) (defBody (subS 3 0)) (defScope (subS 3 0)) (.ref dT_BadRule) xkV_BadRule xdoc_BadRule xpm_BadRule xan_BadRule (.ref cda_BadRule) xct_BadRule cc_BadRule), xosl_BadRule⟩)
    (xh_BadRule : PySem.W.codeIn K (.ref cda_BadRule) ("BadRule.__init__" : Str) = true)
    (xi_BadRule : K.lookup cda_BadRule = some ⟨ccl_BadRule, cdd_BadRule, .fields cvs_BadRule, ccs_BadRule⟩)
    (xj_BadRule : cvs_BadRule[2]? = some (.str file_BadRule tf_BadRule))
    (xk_BadRule : ((P.main.file : Str) == file_BadRule) = true)
    (xl_BadRule : K.lookup cc_BadRule = some ⟨xcl_BadRule, xcld_BadRule, .cell (some (.ref C1)), csl_BadRule⟩)
    (xm_BadRule : K.lookup dT_BadRule = some oT_BadRule)
    (xn_BadRule : oT_BadRule.data = .seq aT_BadRule nT_BadRule)
    (xo_BadRule : Vals [.non] aT_BadRule.toList)
    (y1_BadRule : PySem.W.findIn K (.ref C1) "__getattribute__" = some (some (.builtin "BaseException.__getattribute__")))
    (y2_BadRule : PySem.W.findIn K (.ref C1) "__getattr__" = some none)
    (y3_BadRule : PySem.W.hasDictIn K C1 = true)
    (na_BadRule_part : PySem.W.findIn K (.ref (C1)) ("part" : Str) = some none)
    : ∃ fd : FuncData, (∀ (s : Shared) (u : Value), BindsTo s fd ⟨[u], []⟩ [(("_law_script" : Str), u)]) ∧ ∀ base : Heap, K.In base → base.Ns mainGlobals mg → FnOk P w K mg base (L2.CX P w) 17 fa fd ["_law_script"] (spL K) := by
  have e := hfa.symm.trans (PySem.W.mg_of X G fa41)
  cases e
  let Φ : Nat → Fn := fun i => match i with
    | 0 => ⟨f0, PySem.W.fnOf ("_law_number" : Str) ("_law_number" : Str) (defArgs s_law_number) (defBody s_law_number) (defScope s_law_number) .none kV0 doc0 pm0 an0 cdv0 ct0, [("_law_script" : Str), ("_law_index" : Str)]⟩
    | 1 => ⟨f1, PySem.W.fnOf ("_law_take" : Str) ("_law_take" : Str) (defArgs s_law_take) (defBody s_law_take) (defScope s_law_take) .none kV1 doc1 pm1 an1 cdv1 ct1, [("_law_draw" : Str), ("_law_many" : Str)]⟩
    | 2 => ⟨f2, PySem.W.fnOf ("_law_pick" : Str) ("_law_pick" : Str) (defArgs s_law_pick) (defBody s_law_pick) (defScope s_law_pick) .none kV2 doc2 pm2 an2 cdv2 ct2, [("_law_draw" : Str), ("_law_things" : Str)]⟩
    | 3 => ⟨f3, PySem.W.fnOf ("_law_words" : Str) ("_law_words" : Str) (defArgs s_law_words) (defBody s_law_words) (defScope s_law_words) .none kV3 doc3 pm3 an3 cdv3 ct3, [("_law_draw" : Str)]⟩
    | 4 => ⟨f4, PySem.W.fnOf ("_law_parts" : Str) ("_law_parts" : Str) (defArgs s_law_parts) (defBody s_law_parts) (defScope s_law_parts) .none kV4 doc4 pm4 an4 cdv4 ct4, [("_law_draw" : Str)]⟩
    | 5 => ⟨f5, PySem.W.fnOf ("_law_turns" : Str) ("_law_turns" : Str) (defArgs s_law_turns) (defBody s_law_turns) (defScope s_law_turns) .none kV5 doc5 pm5 an5 cdv5 ct5, []⟩
    | 6 => ⟨f6, PySem.W.fnOf ("_law_own" : Str) ("_law_own" : Str) (defArgs s_law_own) (defBody s_law_own) (defScope s_law_own) .none kV6 doc6 pm6 an6 cdv6 ct6, [("_law_parts_here" : Str), ("_law_state" : Str), ("_law_word" : Str)]⟩
    | 7 => ⟨f7, PySem.W.fnOf ("_law_heard" : Str) ("_law_heard" : Str) (defArgs s_law_heard) (defBody s_law_heard) (defScope s_law_heard) .none kV7 doc7 pm7 an7 cdv7 ct7, [("_law_parts_here" : Str), ("_law_state" : Str), ("_law_letter" : Str), ("_law_is_less" : Str)]⟩
    | 8 => ⟨f8, PySem.W.fnOf ("_law_turn" : Str) ("_law_turn" : Str) (defArgs s_law_turn) (defBody s_law_turn) (defScope s_law_turn) .none kV8 doc8 pm8 an8 cdv8 ct8, [("_law_parts_here" : Str), ("_law_state" : Str), ("_law_turn_here" : Str)]⟩
    | 9 => ⟨f9, PySem.W.fnOf ("_law_parted" : Str) ("_law_parted" : Str) (defArgs s_law_parted) (defBody s_law_parted) (defScope s_law_parted) .none kV9 doc9 pm9 an9 cdv9 ct9, [("_law_one" : Str), ("_law_other" : Str), ("_law_both" : Str), ("_law_turn_here" : Str)]⟩
    | 10 => ⟨f10, PySem.W.fnOf ("_law_reach" : Str) ("_law_reach" : Str) (defArgs s_law_reach) (defBody s_law_reach) (defScope s_law_reach) .none kV10 doc10 pm10 an10 cdv10 ct10, [("_law_one" : Str), ("_law_other" : Str)]⟩
    | 11 => ⟨f11, PySem.W.fnOf ("are_words" : Str) ("are_words" : Str) (defArgs s_are_words) (defBody s_are_words) (defScope s_are_words) .none kV11 doc11 pm11 an11 cdv11 ct11, [("value" : Str)]⟩
    | 12 => ⟨f12, PySem.W.fnOf ("is_whole" : Str) ("is_whole" : Str) (defArgs s_is_whole) (defBody s_is_whole) (defScope s_is_whole) .none kV12 doc12 pm12 an12 cdv12 ct12, [("value" : Str), ("low" : Str), ("high" : Str)]⟩
    | 13 => ⟨f13, PySem.W.fnOf ("wrong_part" : Str) ("wrong_part" : Str) (defArgs s_wrong_part) (defBody s_wrong_part) (defScope s_wrong_part) .none kV13 doc13 pm13 an13 cdv13 ct13, [("row" : Str)]⟩
    | 14 => ⟨f14, PySem.W.fnOf ("__init__" : Str) ("Rule.__init__" : Str) (defArgs s_Rule_init) (defBody s_Rule_init) (defScope s_Rule_init) .none (.ref D14) doc14 pm14 an14 cdv14 ct14, [("self" : Str), ("asks" : Str), ("tells" : Str), ("meets" : Str), ("stands" : Str), ("answers" : Str), ("again" : Str)]⟩
    | 15 => ⟨f15, PySem.W.fnOf ("_law_made" : Str) ("_law_made" : Str) (defArgs s_law_made) (defBody s_law_made) (defScope s_law_made) .none kV15 doc15 pm15 an15 cdv15 ct15, [("_law_parts_here" : Str)]⟩
    | 16 => ⟨f16, PySem.W.fnOf ("check_rule" : Str) ("check_rule" : Str) (defArgs s_check_rule) (defBody s_check_rule) (defScope s_check_rule) .none kV16 doc16 pm16 an16 cdv16 ct16, [("value" : Str)]⟩
    | 17 => ⟨f17, PySem.W.fnOf ("check_two" : Str) ("check_two" : Str) (defArgs s_check_two) (defBody s_check_two) (defScope s_check_two) .none kV17 doc17 pm17 an17 cdv17 ct17, [("one" : Str), ("other" : Str)]⟩
    | 18 => ⟨f18, PySem.W.fnOf ("asks" : Str) ("Rule.asks" : Str) (defArgs s_Rule_asks) (defBody s_Rule_asks) (defScope s_Rule_asks) .none kV18 doc18 pm18 an18 cdv18 ct18, [("self" : Str)]⟩
    | 19 => ⟨f19, PySem.W.fnOf ("tells" : Str) ("Rule.tells" : Str) (defArgs s_Rule_tells) (defBody s_Rule_tells) (defScope s_Rule_tells) .none kV19 doc19 pm19 an19 cdv19 ct19, [("self" : Str)]⟩
    | 20 => ⟨f20, PySem.W.fnOf ("again" : Str) ("Rule.again" : Str) (defArgs s_Rule_again) (defBody s_Rule_again) (defScope s_Rule_again) .none kV20 doc20 pm20 an20 cdv20 ct20, [("self" : Str)]⟩
    | 21 => ⟨f21, PySem.W.fnOf ("own" : Str) ("own" : Str) (defArgs s_own) (defBody s_own) (defScope s_own) .none kV21 doc21 pm21 an21 cdv21 ct21, [("rule" : Str), ("state" : Str), ("word" : Str)]⟩
    | 22 => ⟨f22, PySem.W.fnOf ("gives_way" : Str) ("gives_way" : Str) (defArgs s_gives_way) (defBody s_gives_way) (defScope s_gives_way) .none kV22 doc22 pm22 an22 cdv22 ct22, [("word" : Str), ("is_lesser" : Str)]⟩
    | 23 => ⟨f23, PySem.W.fnOf ("meets" : Str) ("Rule.meets" : Str) (defArgs s_Rule_meets) (defBody s_Rule_meets) (defScope s_Rule_meets) .none kV23 doc23 pm23 an23 cdv23 ct23, [("self" : Str)]⟩
    | 24 => ⟨f24, PySem.W.fnOf ("stands" : Str) ("Rule.stands" : Str) (defArgs s_Rule_stands) (defBody s_Rule_stands) (defScope s_Rule_stands) .none kV24 doc24 pm24 an24 cdv24 ct24, [("self" : Str)]⟩
    | 25 => ⟨f25, PySem.W.fnOf ("heard" : Str) ("heard" : Str) (defArgs s_heard) (defBody s_heard) (defScope s_heard) .none kV25 doc25 pm25 an25 cdv25 ct25, [("rule" : Str), ("state" : Str), ("letter" : Str), ("is_lesser" : Str)]⟩
    | 26 => ⟨f26, PySem.W.fnOf ("answers" : Str) ("Rule.answers" : Str) (defArgs s_Rule_answers) (defBody s_Rule_answers) (defScope s_Rule_answers) .none kV26 doc26 pm26 an26 cdv26 ct26, [("self" : Str)]⟩
    | 27 => ⟨f27, PySem.W.fnOf ("replies" : Str) ("replies" : Str) (defArgs s_replies) (defBody s_replies) (defScope s_replies) .none kV27 doc27 pm27 an27 cdv27 ct27, [("rule" : Str), ("state" : Str), ("is_lesser" : Str)]⟩
    | 28 => ⟨f28, PySem.W.fnOf ("turned" : Str) ("turned" : Str) (defArgs s_turned) (defBody s_turned) (defScope s_turned) .none kV28 doc28 pm28 an28 cdv28 ct28, [("rule" : Str), ("state" : Str), ("turn" : Str)]⟩
    | 29 => ⟨f29, PySem.W.fnOf ("is_parted" : Str) ("is_parted" : Str) (defArgs s_is_parted) (defBody s_is_parted) (defScope s_is_parted) .none kV29 doc29 pm29 an29 cdv29 ct29, [("first" : Str), ("second" : Str)]⟩
    | 30 => ⟨f30, PySem.W.fnOf ("shows" : Str) ("Alike.shows" : Str) (defArgs s_Alike_shows) (defBody s_Alike_shows) (defScope s_Alike_shows) .none kV30 doc30 pm30 an30 cdv30 ct30, [("self" : Str), ("one" : Str), ("other" : Str)]⟩
    | 31 => ⟨f31, PySem.W.fnOf ("__init__" : Str) ("Alike.__init__" : Str) (defArgs s_Alike_init) (defBody s_Alike_init) (defScope s_Alike_init) .none kV31 doc31 pm31 an31 cdv31 ct31, [("self" : Str), ("legs" : Str)]⟩
    | 32 => ⟨f32, PySem.W.fnOf ("_law_is_alike" : Str) ("_law_is_alike" : Str) (defArgs s_law_is_alike) (defBody s_law_is_alike) (defScope s_law_is_alike) .none kV32 doc32 pm32 an32 cdv32 ct32, [("_law_one" : Str), ("_law_other" : Str), ("_law_states" : Str)]⟩
    | 33 => ⟨f33, PySem.W.fnOf ("_law_lists_right" : Str) ("_law_lists_right" : Str) (defArgs s_law_lists_right) (defBody s_law_lists_right) (defScope s_law_lists_right) .none kV33 doc33 pm33 an33 cdv33 ct33, [("_law_draw" : Str), ("_law_one" : Str), ("_law_other" : Str), ("_law_found" : Str)]⟩
    | 34 => ⟨f34, PySem.W.fnOf ("shows" : Str) ("Parted.shows" : Str) (defArgs s_Parted_shows) (defBody s_Parted_shows) (defScope s_Parted_shows) .none kV34 doc34 pm34 an34 cdv34 ct34, [("self" : Str), ("one" : Str), ("other" : Str)]⟩
    | 35 => ⟨f35, PySem.W.fnOf ("__init__" : Str) ("Parted.__init__" : Str) (defArgs s_Parted_init) (defBody s_Parted_init) (defScope s_Parted_init) .none kV35 doc35 pm35 an35 cdv35 ct35, [("self" : Str), ("turns" : Str)]⟩
    | 36 => ⟨f36, PySem.W.fnOf ("_law_is_parting" : Str) ("_law_is_parting" : Str) (defArgs s_law_is_parting) (defBody s_law_is_parting) (defScope s_law_is_parting) .none kV36 doc36 pm36 an36 cdv36 ct36, [("_law_one" : Str), ("_law_other" : Str), ("_law_row" : Str)]⟩
    | 37 => ⟨f37, PySem.W.fnOf ("_law_rows_right" : Str) ("_law_rows_right" : Str) (defArgs s_law_rows_right) (defBody s_law_rows_right) (defScope s_law_rows_right) .none kV37 doc37 pm37 an37 cdv37 ct37, [("_law_draw" : Str), ("_law_one" : Str), ("_law_other" : Str), ("_law_found" : Str)]⟩
    | 38 => ⟨f38, PySem.W.fnOf ("__eq__" : Str) ("Alike.__eq__" : Str) (defArgs s_Alike_eq) (defBody s_Alike_eq) (defScope s_Alike_eq) .none kV38 doc38 pm38 an38 cdv38 ct38, [("self" : Str), ("other" : Str)]⟩
    | 39 => ⟨f39, PySem.W.fnOf ("__eq__" : Str) ("Parted.__eq__" : Str) (defArgs s_Parted_eq) (defBody s_Parted_eq) (defScope s_Parted_eq) .none kV39 doc39 pm39 an39 cdv39 ct39, [("self" : Str), ("other" : Str)]⟩
    | 40 => ⟨f40, PySem.W.fnOf ("_law_equal_right" : Str) ("_law_equal_right" : Str) (defArgs s_law_equal_right) (defBody s_law_equal_right) (defScope s_law_equal_right) .none kV40 doc40 pm40 an40 cdv40 ct40, [("_law_found" : Str)]⟩
    | 41 => ⟨fa, PySem.W.fnOf ("law" : Str) ("law" : Str) (defArgs s_law) (defBody s_law) (defScope s_law) .none kV41 doc41 pm41 an41 cdv41 ct41, [("_law_script" : Str)]⟩
    | _ => ⟨fa, fnOf0, []⟩
  have hd : ∀ base, HD ⟨P, w, mg, base, K, fun n => match n with | 0 => C0 | 1 => C1 | 2 => C2 | 3 => C3 | _ => C0, flds, 0⟩ Φ (fun n => match n with | 0 => a0 | 1 => a1 | 2 => a2 | 3 => a3 | 4 => a4 | 5 => a5 | 6 => a6 | 7 => a7 | 8 => a8 | 9 => a9 | 10 => a10 | 11 => a11 | 12 => a12 | 13 => a13 | 14 => a14 | 15 => a15 | _ => 0) (fun n => match n with | 1 => fI_BadRule | _ => 0) := fun base => ⟨rfl,
    PySem.W.mg_none_of X G m_all,
    PySem.W.mg_none_of X G m_bool,
    PySem.W.mg_none_of X G m_dict,
    PySem.W.mg_none_of X G m_enumerate,
    PySem.W.mg_none_of X G m_int,
    PySem.W.mg_none_of X G m_isinstance,
    PySem.W.mg_none_of X G m_len,
    PySem.W.mg_none_of X G m_list,
    PySem.W.mg_none_of X G m_max,
    PySem.W.mg_none_of X G m_min,
    PySem.W.mg_none_of X G m_range,
    PySem.W.mg_none_of X G m_str,
    PySem.W.mg_none_of X G m_sum,
    PySem.W.mg_none_of X G m_tuple,
    PySem.W.mg_none_of X G m_zip,
    ⟨⟨oc0, od0, .none, kV0, doc0, pm0, an0, cdv0, ct0, osl0, rfl, fl0, fc0, .inl ⟨rfl, rfl⟩, .inl rfl⟩, fk0⟩,
    rfl,
    PySem.W.mg_of X G fa0,
    ⟨⟨oc1, od1, .none, kV1, doc1, pm1, an1, cdv1, ct1, osl1, rfl, fl1, fc1, .inl ⟨rfl, rfl⟩, .inl rfl⟩, fk1⟩,
    rfl,
    PySem.W.mg_of X G fa1,
    ⟨⟨oc2, od2, .none, kV2, doc2, pm2, an2, cdv2, ct2, osl2, rfl, fl2, fc2, .inl ⟨rfl, rfl⟩, .inl rfl⟩, fk2⟩,
    rfl,
    PySem.W.mg_of X G fa2,
    ⟨⟨oc3, od3, .none, kV3, doc3, pm3, an3, cdv3, ct3, osl3, rfl, fl3, fc3, .inl ⟨rfl, rfl⟩, .inl rfl⟩, fk3⟩,
    rfl,
    PySem.W.mg_of X G fa3,
    ⟨⟨oc4, od4, .none, kV4, doc4, pm4, an4, cdv4, ct4, osl4, rfl, fl4, fc4, .inl ⟨rfl, rfl⟩, .inl rfl⟩, fk4⟩,
    rfl,
    PySem.W.mg_of X G fa4,
    ⟨⟨oc5, od5, .none, kV5, doc5, pm5, an5, cdv5, ct5, osl5, rfl, fl5, fc5, .inl ⟨rfl, rfl⟩, .inl rfl⟩, fk5⟩,
    rfl,
    PySem.W.mg_of X G fa5,
    ⟨⟨oc6, od6, .none, kV6, doc6, pm6, an6, cdv6, ct6, osl6, rfl, fl6, fc6, .inl ⟨rfl, rfl⟩, .inl rfl⟩, fk6⟩,
    rfl,
    PySem.W.mg_of X G fa6,
    ⟨⟨oc7, od7, .none, kV7, doc7, pm7, an7, cdv7, ct7, osl7, rfl, fl7, fc7, .inl ⟨rfl, rfl⟩, .inl rfl⟩, fk7⟩,
    rfl,
    PySem.W.mg_of X G fa7,
    ⟨⟨oc8, od8, .none, kV8, doc8, pm8, an8, cdv8, ct8, osl8, rfl, fl8, fc8, .inl ⟨rfl, rfl⟩, .inl rfl⟩, fk8⟩,
    rfl,
    PySem.W.mg_of X G fa8,
    ⟨⟨oc9, od9, .none, kV9, doc9, pm9, an9, cdv9, ct9, osl9, rfl, fl9, fc9, .inl ⟨rfl, rfl⟩, .inl rfl⟩, fk9⟩,
    rfl,
    PySem.W.mg_of X G fa9,
    ⟨⟨oc10, od10, .none, kV10, doc10, pm10, an10, cdv10, ct10, osl10, rfl, fl10, fc10, .inl ⟨rfl, rfl⟩, .inl rfl⟩, fk10⟩,
    rfl,
    PySem.W.mg_of X G fa10,
    ⟨⟨oc11, od11, .none, kV11, doc11, pm11, an11, cdv11, ct11, osl11, rfl, fl11, fc11, .inl ⟨rfl, rfl⟩, .inl rfl⟩, fk11⟩,
    rfl,
    PySem.W.mg_of X G fa11,
    ⟨⟨oc12, od12, .none, kV12, doc12, pm12, an12, cdv12, ct12, osl12, rfl, fl12, fc12, .inl ⟨rfl, rfl⟩, .inl rfl⟩, fk12⟩,
    rfl,
    PySem.W.mg_of X G fa12,
    ⟨⟨oc13, od13, .none, kV13, doc13, pm13, an13, cdv13, ct13, osl13, rfl, fl13, fc13, .inl ⟨rfl, rfl⟩, .inl rfl⟩, fk13⟩,
    rfl,
    PySem.W.mg_of X G fa13,
    ⟨_, _, _, tl0, rfl, rfl, rfl, vals_small tv0 (by simp), tv0⟩,
    ⟨_, _, _, tl1, rfl, rfl, rfl, vals_small tv1 (by simp), tv1⟩,
    ⟨⟨oc14, od14, .none, (.ref D14), doc14, pm14, an14, cdv14, ct14, osl14, rfl, fl14, fc14, .inl ⟨rfl, rfl⟩, .inr ⟨_, rfl, by intro q h; simp only [List.mem_cons, List.not_mem_nil, or_false] at h; rcases h with rfl | rfl | rfl | rfl <;> (first | exact ⟨_, ta0, rfl⟩ | exact ⟨_, ta1, rfl⟩ | exact ⟨_, kd14_answers, rfl⟩ | exact ⟨_, kd14_again, rfl⟩)⟩⟩, fk14⟩,
    rfl,
    ⟨⟨oc15, od15, .none, kV15, doc15, pm15, an15, cdv15, ct15, osl15, rfl, fl15, fc15, .inl ⟨rfl, rfl⟩, .inl rfl⟩, fk15⟩,
    rfl,
    PySem.W.mg_of X G fa15,
    ⟨⟨oc16, od16, .none, kV16, doc16, pm16, an16, cdv16, ct16, osl16, rfl, fl16, fc16, .inl ⟨rfl, rfl⟩, .inl rfl⟩, fk16⟩,
    rfl,
    PySem.W.mg_of X G fa16,
    ⟨⟨oc17, od17, .none, kV17, doc17, pm17, an17, cdv17, ct17, osl17, rfl, fl17, fc17, .inl ⟨rfl, rfl⟩, .inl rfl⟩, fk17⟩,
    rfl,
    PySem.W.mg_of X G fa17,
    ⟨⟨oc18, od18, .none, kV18, doc18, pm18, an18, cdv18, ct18, osl18, rfl, fl18, fc18, .inl ⟨rfl, rfl⟩, .inl rfl⟩, fk18⟩,
    rfl,
    ⟨pp18, pa18, pc18, pd18, rest18, pb18⟩,
    ⟨⟨oc19, od19, .none, kV19, doc19, pm19, an19, cdv19, ct19, osl19, rfl, fl19, fc19, .inl ⟨rfl, rfl⟩, .inl rfl⟩, fk19⟩,
    rfl,
    ⟨pp19, pa19, pc19, pd19, rest19, pb19⟩,
    ⟨⟨oc20, od20, .none, kV20, doc20, pm20, an20, cdv20, ct20, osl20, rfl, fl20, fc20, .inl ⟨rfl, rfl⟩, .inl rfl⟩, fk20⟩,
    rfl,
    ⟨pp20, pa20, pc20, pd20, rest20, pb20⟩,
    ⟨⟨oc21, od21, .none, kV21, doc21, pm21, an21, cdv21, ct21, osl21, rfl, fl21, fc21, .inl ⟨rfl, rfl⟩, .inl rfl⟩, fk21⟩,
    rfl,
    PySem.W.mg_of X G fa21,
    ⟨⟨oc22, od22, .none, kV22, doc22, pm22, an22, cdv22, ct22, osl22, rfl, fl22, fc22, .inl ⟨rfl, rfl⟩, .inl rfl⟩, fk22⟩,
    rfl,
    PySem.W.mg_of X G fa22,
    ⟨⟨oc23, od23, .none, kV23, doc23, pm23, an23, cdv23, ct23, osl23, rfl, fl23, fc23, .inl ⟨rfl, rfl⟩, .inl rfl⟩, fk23⟩,
    rfl,
    ⟨pp23, pa23, pc23, pd23, rest23, pb23⟩,
    ⟨⟨oc24, od24, .none, kV24, doc24, pm24, an24, cdv24, ct24, osl24, rfl, fl24, fc24, .inl ⟨rfl, rfl⟩, .inl rfl⟩, fk24⟩,
    rfl,
    ⟨pp24, pa24, pc24, pd24, rest24, pb24⟩,
    ⟨⟨oc25, od25, .none, kV25, doc25, pm25, an25, cdv25, ct25, osl25, rfl, fl25, fc25, .inl ⟨rfl, rfl⟩, .inl rfl⟩, fk25⟩,
    rfl,
    PySem.W.mg_of X G fa25,
    ⟨⟨oc26, od26, .none, kV26, doc26, pm26, an26, cdv26, ct26, osl26, rfl, fl26, fc26, .inl ⟨rfl, rfl⟩, .inl rfl⟩, fk26⟩,
    rfl,
    ⟨pp26, pa26, pc26, pd26, rest26, pb26⟩,
    ⟨⟨oc27, od27, .none, kV27, doc27, pm27, an27, cdv27, ct27, osl27, rfl, fl27, fc27, .inl ⟨rfl, rfl⟩, .inl rfl⟩, fk27⟩,
    rfl,
    PySem.W.mg_of X G fa27,
    ⟨⟨oc28, od28, .none, kV28, doc28, pm28, an28, cdv28, ct28, osl28, rfl, fl28, fc28, .inl ⟨rfl, rfl⟩, .inl rfl⟩, fk28⟩,
    rfl,
    PySem.W.mg_of X G fa28,
    ⟨⟨oc29, od29, .none, kV29, doc29, pm29, an29, cdv29, ct29, osl29, rfl, fl29, fc29, .inl ⟨rfl, rfl⟩, .inl rfl⟩, fk29⟩,
    rfl,
    PySem.W.mg_of X G fa29,
    ⟨⟨oc30, od30, .none, kV30, doc30, pm30, an30, cdv30, ct30, osl30, rfl, fl30, fc30, .inl ⟨rfl, rfl⟩, .inl rfl⟩, fk30⟩,
    rfl,
    ⟨fa30, fi30, fk30⟩,
    ⟨⟨oc31, od31, .none, kV31, doc31, pm31, an31, cdv31, ct31, osl31, rfl, fl31, fc31, .inl ⟨rfl, rfl⟩, .inl rfl⟩, fk31⟩,
    rfl,
    ⟨⟨oc32, od32, .none, kV32, doc32, pm32, an32, cdv32, ct32, osl32, rfl, fl32, fc32, .inl ⟨rfl, rfl⟩, .inl rfl⟩, fk32⟩,
    rfl,
    PySem.W.mg_of X G fa32,
    ⟨⟨oc33, od33, .none, kV33, doc33, pm33, an33, cdv33, ct33, osl33, rfl, fl33, fc33, .inl ⟨rfl, rfl⟩, .inl rfl⟩, fk33⟩,
    rfl,
    PySem.W.mg_of X G fa33,
    ⟨⟨oc34, od34, .none, kV34, doc34, pm34, an34, cdv34, ct34, osl34, rfl, fl34, fc34, .inl ⟨rfl, rfl⟩, .inl rfl⟩, fk34⟩,
    rfl,
    ⟨fa34, fi34, fk34⟩,
    ⟨⟨oc35, od35, .none, kV35, doc35, pm35, an35, cdv35, ct35, osl35, rfl, fl35, fc35, .inl ⟨rfl, rfl⟩, .inl rfl⟩, fk35⟩,
    rfl,
    ⟨⟨oc36, od36, .none, kV36, doc36, pm36, an36, cdv36, ct36, osl36, rfl, fl36, fc36, .inl ⟨rfl, rfl⟩, .inl rfl⟩, fk36⟩,
    rfl,
    PySem.W.mg_of X G fa36,
    ⟨⟨oc37, od37, .none, kV37, doc37, pm37, an37, cdv37, ct37, osl37, rfl, fl37, fc37, .inl ⟨rfl, rfl⟩, .inl rfl⟩, fk37⟩,
    rfl,
    PySem.W.mg_of X G fa37,
    ⟨⟨oc38, od38, .none, kV38, doc38, pm38, an38, cdv38, ct38, osl38, rfl, fl38, fc38, .inl ⟨rfl, rfl⟩, .inl rfl⟩, fk38⟩,
    rfl,
    ⟨fa38, fi38, fk38⟩,
    ⟨⟨oc39, od39, .none, kV39, doc39, pm39, an39, cdv39, ct39, osl39, rfl, fl39, fc39, .inl ⟨rfl, rfl⟩, .inl rfl⟩, fk39⟩,
    rfl,
    ⟨fa39, fi39, fk39⟩,
    ⟨⟨oc40, od40, .none, kV40, doc40, pm40, an40, cdv40, ct40, osl40, rfl, fl40, fc40, .inl ⟨rfl, rfl⟩, .inl rfl⟩, fk40⟩,
    rfl,
    PySem.W.mg_of X G fa40,
    ⟨⟨oc41, od41, .none, kV41, doc41, pm41, an41, cdv41, ct41, osl41, rfl, fl41, fc41, .inl ⟨rfl, rfl⟩, .inl rfl⟩, fk41⟩,
    rfl,
    PySem.W.mg_of X G fa41,
    ⟨_, PySem.W.mg_of X G k_MOST_ASKS⟩,
    ⟨_, PySem.W.mg_of X G k_MOST_TELLS⟩,
    PySem.W.mg_of X G ta2,
    ⟨_, _, _, tl2, rfl, rfl, rfl, vals_small tv2 (by simp), tv2⟩,
    PySem.W.mg_of X G ta3,
    ⟨_, _, _, tl4, rfl, rfl, rfl, vals_small tv4 (by simp), tv4⟩,
    ⟨_, _, _, tl5, rfl, rfl, rfl, vals_small tv5 (by simp), tv5⟩,
    ⟨_, _, _, tl6, rfl, rfl, rfl, vals_small tv6 (by simp), tv6⟩,
    ⟨_, _, _, tl7, rfl, rfl, rfl, vals_small tv7 (by simp), tv7⟩,
    ⟨_, _, _, tl8, rfl, rfl, rfl, vals_small tv8 (by simp), tv8⟩,
    ⟨_, _, _, tl9, rfl, rfl, rfl, vals_small tv9 (by simp), tv9⟩,
    ⟨_, _, _, tl10, rfl, rfl, rfl, vals_small tv10 (by simp), tv10⟩,
    ⟨_, _, _, tl11, rfl, rfl, rfl, vals_small tv11 (by simp), tv11⟩,
    ⟨_, _, _, tl12, rfl, rfl, rfl, vals_small tv12 (by simp), tv12⟩,
    ⟨_, _, _, tl13, rfl, rfl, rfl, vals_small tv13 (by simp), tv13⟩,
    ⟨_, _, _, tl14, rfl, rfl, rfl, vals_small tv14 (by simp), tv14⟩,
    ⟨_, _, _, tl3, rfl, rfl, rfl, vals_small tv3 (by simp), tv3⟩,
    PySem.W.mg_of X G ta15,
    ⟨_, _, _, tl15, rfl, rfl, rfl, vals_small tv15 (by simp), tv15⟩,
    PySem.W.mg_of X G gm_Rule,
    ⟨cl1_Rule, cl2_Rule, cl3_Rule, cl4_Rule⟩,
    ⟨mk1_Rule, fa14, fi14, mk2_Rule⟩,
    na_Rule_row,
    i1_Rule,
    i2_Rule,
    i3_Rule_int,
    i3_Rule_str,
    i3_Rule_bool,
    i3_Rule_tuple,
    i3_Rule_list,
    i3_Rule_dict,
    i4_Rule_NoneType,
    i5_Rule_NoneType,
    i4_Rule_bool,
    i5_Rule_bool,
    i4_Rule_int,
    i5_Rule_int,
    i4_Rule_str,
    i5_Rule_str,
    i4_Rule_tuple,
    i5_Rule_tuple,
    i4_Rule_list,
    i5_Rule_list,
    i4_Rule_dict,
    i5_Rule_dict,
    i6_Rule_Rule,
    i6_Rule_Alike,
    i6_Rule_Parted,
    ne_Rule,
    PySem.W.mg_of X G gm_Alike,
    ⟨cl1_Alike, cl2_Alike, cl3_Alike, cl4_Alike⟩,
    ⟨mk1_Alike, fa31, fi31, mk2_Alike⟩,
    na_Alike_legs,
    i1_Alike,
    i2_Alike,
    i3_Alike_int,
    i3_Alike_str,
    i3_Alike_bool,
    i3_Alike_tuple,
    i3_Alike_list,
    i3_Alike_dict,
    i4_Alike_NoneType,
    i5_Alike_NoneType,
    i4_Alike_bool,
    i5_Alike_bool,
    i4_Alike_int,
    i5_Alike_int,
    i4_Alike_str,
    i5_Alike_str,
    i4_Alike_tuple,
    i5_Alike_tuple,
    i4_Alike_list,
    i5_Alike_list,
    i4_Alike_dict,
    i5_Alike_dict,
    i6_Alike_Rule,
    i6_Alike_Alike,
    i6_Alike_Parted,
    ne_Alike,
    PySem.W.mg_of X G gm_Parted,
    ⟨cl1_Parted, cl2_Parted, cl3_Parted, cl4_Parted⟩,
    ⟨mk1_Parted, fa35, fi35, mk2_Parted⟩,
    na_Parted_turns,
    i1_Parted,
    i2_Parted,
    i3_Parted_int,
    i3_Parted_str,
    i3_Parted_bool,
    i3_Parted_tuple,
    i3_Parted_list,
    i3_Parted_dict,
    i4_Parted_NoneType,
    i5_Parted_NoneType,
    i4_Parted_bool,
    i5_Parted_bool,
    i4_Parted_int,
    i5_Parted_int,
    i4_Parted_str,
    i5_Parted_str,
    i4_Parted_tuple,
    i5_Parted_tuple,
    i4_Parted_list,
    i5_Parted_list,
    i4_Parted_dict,
    i5_Parted_dict,
    i6_Parted_Rule,
    i6_Parted_Alike,
    i6_Parted_Parted,
    ne_Parted,
    su_Parted_Alike,
    o1,
    o2,
    ⟨⟨_, _, _, _, _, _, _, _, _, _, _, _, _, _, _, xc_BadRule, xb_BadRule⟩, x1_BadRule, x2_BadRule, x3_BadRule, x4_BadRule, x5_BadRule, x6_BadRule, x7_BadRule, x8_BadRule, x9_BadRule, xa_BadRule, xd_BadRule, PySem.W.mg_none_of X G xe_BadRule, xf_BadRule, ⟨_, _, .ref dT_BadRule, _, _, _, _, _, _, _, _, _, _, _, _, _, _, _, _, _, _, _, _, _, _, _, _, _, _, xg_BadRule, xh_BadRule, xi_BadRule, xj_BadRule, xk_BadRule, xl_BadRule, .inr ⟨by simp, _, _, _, _, rfl, xm_BadRule, dat_list xn_BadRule, xo_BadRule⟩, rfl⟩, ⟨_, _, _, rfl, rfl⟩, sup_b_BadRule, rfl, rfl, rfl, rfl, rfl, rfl, rfl, by decide, rfl, by decide⟩,
    PySem.W.mg_of X G gm_BadRule,
    ⟨y1_BadRule, y2_BadRule, x6_BadRule, y3_BadRule⟩,
    na_BadRule_part⟩
  exact ⟨_, fun s u => .of_eq rfl, fun base _ _ => law_ok (ok_law (hd base)) pure_law⟩
theorem walk {l : PySem.W.OpenLaw} {q : Program} {loose : List Str} {XP : (Str → Option Value) → Heap → Prop} {YP : World → Heap → Prop} {d : DefRec} {K : Params → PySem.W.Frag} (hn : l.most = some 63) (hdf : d.params.defaults = [])
    (hY : ∀ (w : World) (h : Heap), YP w h → (K w.params).In h)
    (F : ∀ (w : World) (mg : Str → Option Value) (fa : Addr) (h : Heap), (K w.params).In h → h.Ns mainGlobals mg → mg d.name = some (.ref fa) →
      ∃ fd : FuncData, (∀ (s : Shared) (u : Value), BindsTo s fd ⟨[u], []⟩ [(("_law_script" : Str), u)]) ∧ ∀ base : Heap, (K w.params).In base → base.Ns mainGlobals mg → FnOk l.prog w (K w.params) mg base (L2.CX l.prog w) 17 fa fd ["_law_script"] (spL (K w.params))) :
    PySem.W.WalkO q loose XP YP l.row.toRowW d [] (fun f vs => PySem.call f vs) :=
  L2.walk_of (n := 63) (k := 17) (x := "_law_script") (CX := fun w => L2.CX l.prog w) (sp := fun w => spL (K w.params)) hn (by decide) hdf ⟨rfl, by decide, by decide⟩ hY F (fun _ _ a ns hl ho hS => ⟨a, ns, rfl, ScrAt.of ho hS, hl, fun _ => rfl⟩) fun _ _ _ _ _ z => by obtain ⟨_, _, _, _, _, _, _, _, _, _, _, _, z⟩ := z; exact z
end K35
open PySem PySem.W PyProof.Rows in
set_option maxRecDepth 100000 in
set_option maxHeartbeats 0 in
theorem PySem.Challenge.cw_wireclaims_k35_whole_alike_shown_holds : PySem.Challenge.rw_wireclaims_k35_whole_alike_shown.Holds := by
  w_on; o_law; k_head; (case hw => w_witness2)
  k_fill
  refine K35.walk (l := PySem.Challenge.rw_wireclaims_k35_whole_alike_shown) rfl rfl (fun w h Y => PySem.W.kIn_of Y) ?F
  case F =>
    intro w mg fa h KX G hmg
    refine' K35.all_mk KX G hmg ?gm_Rule ?gm_BadRule ?gm_Alike ?gm_Parted ?m_all ?m_bool ?m_dict ?m_enumerate ?m_int ?m_isinstance ?m_len ?m_list ?m_max ?m_min ?m_range ?m_str ?m_sum ?m_tuple ?m_zip ?fa0 ?fl0 ?fc0 ?fk0 ?fa1 ?fl1 ?fc1 ?fk1 ?fa2 ?fl2 ?fc2 ?fk2 ?fa3 ?fl3 ?fc3 ?fk3 ?fa4 ?fl4 ?fc4 ?fk4 ?fa5 ?fl5 ?fc5 ?fk5 ?fa6 ?fl6 ?fc6 ?fk6 ?fa7 ?fl7 ?fc7 ?fk7 ?fa8 ?fl8 ?fc8 ?fk8 ?fa9 ?fl9 ?fc9 ?fk9 ?fa10 ?fl10 ?fc10 ?fk10 ?fa11 ?fl11 ?fc11 ?fk11 ?fa12 ?fl12 ?fc12 ?fk12 ?fa13 ?fl13 ?fc13 ?fk13 ?fa14 ?fi14 ?fl14 ?fc14 ?fk14 ?ta0 ?tl0 ?tv0 ?ta1 ?tl1 ?tv1 ?kd14_answers ?kd14_again ?fa15 ?fl15 ?fc15 ?fk15 ?fa16 ?fl16 ?fc16 ?fk16 ?fa17 ?fl17 ?fc17 ?fk17 ?pa18 ?pb18 ?pc18 ?pd18 ?fl18 ?fc18 ?fk18 ?pa19 ?pb19 ?pc19 ?pd19 ?fl19 ?fc19 ?fk19 ?pa20 ?pb20 ?pc20 ?pd20 ?fl20 ?fc20 ?fk20 ?fa21 ?fl21 ?fc21 ?fk21 ?fa22 ?fl22 ?fc22 ?fk22 ?pa23 ?pb23 ?pc23 ?pd23 ?fl23 ?fc23 ?fk23 ?pa24 ?pb24 ?pc24 ?pd24 ?fl24 ?fc24 ?fk24 ?fa25 ?fl25 ?fc25 ?fk25 ?pa26 ?pb26 ?pc26 ?pd26 ?fl26 ?fc26 ?fk26 ?fa27 ?fl27 ?fc27 ?fk27 ?fa28 ?fl28 ?fc28 ?fk28 ?fa29 ?fl29 ?fc29 ?fk29 ?fa30 ?fi30 ?fl30 ?fc30 ?fk30 ?fa31 ?fi31 ?fl31 ?fc31 ?fk31 ?fa32 ?fl32 ?fc32 ?fk32 ?fa33 ?fl33 ?fc33 ?fk33 ?fa34 ?fi34 ?fl34 ?fc34 ?fk34 ?fa35 ?fi35 ?fl35 ?fc35 ?fk35 ?fa36 ?fl36 ?fc36 ?fk36 ?fa37 ?fl37 ?fc37 ?fk37 ?fa38 ?fi38 ?fl38 ?fc38 ?fk38 ?fa39 ?fi39 ?fl39 ?fc39 ?fk39 ?fa40 ?fl40 ?fc40 ?fk40 ?fa41 ?fl41 ?fc41 ?fk41 ?k_MOST_ASKS ?k_MOST_TELLS ?ta2 ?tl2 ?tv2 ?ta3 ?tl3 ?tv3 ?tl4 ?tv4 ?tl5 ?tv5 ?tl6 ?tv6 ?tl7 ?tv7 ?tl8 ?tv8 ?tl9 ?tv9 ?tl10 ?tv10 ?tl11 ?tv11 ?tl12 ?tv12 ?tl13 ?tv13 ?tl14 ?tv14 ?ta15 ?tl15 ?tv15 ?cl1_Rule ?cl2_Rule ?cl3_Rule ?cl4_Rule ?mk1_Rule ?mk2_Rule ?na_Rule_row ?cl1_Alike ?cl2_Alike ?cl3_Alike ?cl4_Alike ?mk1_Alike ?mk2_Alike ?na_Alike_legs ?cl1_Parted ?cl2_Parted ?cl3_Parted ?cl4_Parted ?mk1_Parted ?mk2_Parted ?na_Parted_turns ?i1_Rule ?i2_Rule ?i3_Rule_int ?i3_Rule_str ?i3_Rule_bool ?i3_Rule_tuple ?i3_Rule_list ?i3_Rule_dict ?i4_Rule_NoneType ?i5_Rule_NoneType ?i4_Rule_bool ?i5_Rule_bool ?i4_Rule_int ?i5_Rule_int ?i4_Rule_str ?i5_Rule_str ?i4_Rule_tuple ?i5_Rule_tuple ?i4_Rule_list ?i5_Rule_list ?i4_Rule_dict ?i5_Rule_dict ?i6_Rule_Rule ?i6_Rule_Alike ?i6_Rule_Parted ?ne_Rule ?i1_Alike ?i2_Alike ?i3_Alike_int ?i3_Alike_str ?i3_Alike_bool ?i3_Alike_tuple ?i3_Alike_list ?i3_Alike_dict ?i4_Alike_NoneType ?i5_Alike_NoneType ?i4_Alike_bool ?i5_Alike_bool ?i4_Alike_int ?i5_Alike_int ?i4_Alike_str ?i5_Alike_str ?i4_Alike_tuple ?i5_Alike_tuple ?i4_Alike_list ?i5_Alike_list ?i4_Alike_dict ?i5_Alike_dict ?i6_Alike_Rule ?i6_Alike_Alike ?i6_Alike_Parted ?ne_Alike ?i1_Parted ?i2_Parted ?i3_Parted_int ?i3_Parted_str ?i3_Parted_bool ?i3_Parted_tuple ?i3_Parted_list ?i3_Parted_dict ?i4_Parted_NoneType ?i5_Parted_NoneType ?i4_Parted_bool ?i5_Parted_bool ?i4_Parted_int ?i5_Parted_int ?i4_Parted_str ?i5_Parted_str ?i4_Parted_tuple ?i5_Parted_tuple ?i4_Parted_list ?i5_Parted_list ?i4_Parted_dict ?i5_Parted_dict ?i6_Parted_Rule ?i6_Parted_Alike ?i6_Parted_Parted ?ne_Parted ?su_Parted_Alike ?o1 ?o2 ?xc_BadRule ?xb_BadRule ?x1_BadRule ?x2_BadRule ?x3_BadRule ?x4_BadRule ?x5_BadRule ?x6_BadRule ?x7_BadRule ?x8_BadRule ?x9_BadRule ?xa_BadRule ?xd_BadRule ?xe_BadRule ?xf_BadRule ?xg_BadRule ?xh_BadRule ?xi_BadRule ?xj_BadRule ?xk_BadRule ?xl_BadRule ?xm_BadRule ?xn_BadRule ?xo_BadRule ?y1_BadRule ?y2_BadRule ?y3_BadRule ?na_BadRule_part
    (case gm_Rule => k_is)
    (case gm_BadRule => k_is)
    (case gm_Alike => k_is)
    (case gm_Parted => k_is)
    (case m_all => k_is)
    (case m_bool => k_is)
    (case m_dict => k_is)
    (case m_enumerate => k_is)
    (case m_int => k_is)
    (case m_isinstance => k_is)
    (case m_len => k_is)
    (case m_list => k_is)
    (case m_max => k_is)
    (case m_min => k_is)
    (case m_range => k_is)
    (case m_str => k_is)
    (case m_sum => k_is)
    (case m_tuple => k_is)
    (case m_zip => k_is)
    (case fa0 => k_is)
    (case fl0 => k_is)
    (case fc0 => k_is)
    (case fk0 => k_is)
    (case fa1 => k_is)
    (case fl1 => k_is)
    (case fc1 => k_is)
    (case fk1 => k_is)
    (case fa2 => k_is)
    (case fl2 => k_is)
    (case fc2 => k_is)
    (case fk2 => k_is)
    (case fa3 => k_is)
    (case fl3 => k_is)
    (case fc3 => k_is)
    (case fk3 => k_is)
    (case fa4 => k_is)
    (case fl4 => k_is)
    (case fc4 => k_is)
    (case fk4 => k_is)
    (case fa5 => k_is)
    (case fl5 => k_is)
    (case fc5 => k_is)
    (case fk5 => k_is)
    (case fa6 => k_is)
    (case fl6 => k_is)
    (case fc6 => k_is)
    (case fk6 => k_is)
    (case fa7 => k_is)
    (case fl7 => k_is)
    (case fc7 => k_is)
    (case fk7 => k_is)
    (case fa8 => k_is)
    (case fl8 => k_is)
    (case fc8 => k_is)
    (case fk8 => k_is)
    (case fa9 => k_is)
    (case fl9 => k_is)
    (case fc9 => k_is)
    (case fk9 => k_is)
    (case fa10 => k_is)
    (case fl10 => k_is)
    (case fc10 => k_is)
    (case fk10 => k_is)
    (case fa11 => k_is)
    (case fl11 => k_is)
    (case fc11 => k_is)
    (case fk11 => k_is)
    (case fa12 => k_is)
    (case fl12 => k_is)
    (case fc12 => k_is)
    (case fk12 => k_is)
    (case fa13 => k_is)
    (case fl13 => k_is)
    (case fc13 => k_is)
    (case fk13 => k_is)
    (case fa14 => k_is)
    (case fi14 => k_is)
    (case fl14 => k_is)
    (case fc14 => k_is)
    (case fk14 => k_is)
    (case ta0 => k_is)
    (case tl0 => k_is)
    (case tv0 => exact .cons ⟨_, rfl⟩ (.nil))
    (case ta1 => k_is)
    (case tl1 => k_is)
    (case tv1 => exact .cons ⟨_, rfl⟩ (.nil))
    (case kd14_answers => k_is)
    (case kd14_again => k_is)
    (case fa15 => k_is)
    (case fl15 => k_is)
    (case fc15 => k_is)
    (case fk15 => k_is)
    (case fa16 => k_is)
    (case fl16 => k_is)
    (case fc16 => k_is)
    (case fk16 => k_is)
    (case fa17 => k_is)
    (case fl17 => k_is)
    (case fc17 => k_is)
    (case fk17 => k_is)
    (case pa18 => k_is)
    (case pb18 => k_is)
    (case pc18 => k_is)
    (case pd18 => k_is)
    (case fl18 => k_is)
    (case fc18 => k_is)
    (case fk18 => k_is)
    (case pa19 => k_is)
    (case pb19 => k_is)
    (case pc19 => k_is)
    (case pd19 => k_is)
    (case fl19 => k_is)
    (case fc19 => k_is)
    (case fk19 => k_is)
    (case pa20 => k_is)
    (case pb20 => k_is)
    (case pc20 => k_is)
    (case pd20 => k_is)
    (case fl20 => k_is)
    (case fc20 => k_is)
    (case fk20 => k_is)
    (case fa21 => k_is)
    (case fl21 => k_is)
    (case fc21 => k_is)
    (case fk21 => k_is)
    (case fa22 => k_is)
    (case fl22 => k_is)
    (case fc22 => k_is)
    (case fk22 => k_is)
    (case pa23 => k_is)
    (case pb23 => k_is)
    (case pc23 => k_is)
    (case pd23 => k_is)
    (case fl23 => k_is)
    (case fc23 => k_is)
    (case fk23 => k_is)
    (case pa24 => k_is)
    (case pb24 => k_is)
    (case pc24 => k_is)
    (case pd24 => k_is)
    (case fl24 => k_is)
    (case fc24 => k_is)
    (case fk24 => k_is)
    (case fa25 => k_is)
    (case fl25 => k_is)
    (case fc25 => k_is)
    (case fk25 => k_is)
    (case pa26 => k_is)
    (case pb26 => k_is)
    (case pc26 => k_is)
    (case pd26 => k_is)
    (case fl26 => k_is)
    (case fc26 => k_is)
    (case fk26 => k_is)
    (case fa27 => k_is)
    (case fl27 => k_is)
    (case fc27 => k_is)
    (case fk27 => k_is)
    (case fa28 => k_is)
    (case fl28 => k_is)
    (case fc28 => k_is)
    (case fk28 => k_is)
    (case fa29 => k_is)
    (case fl29 => k_is)
    (case fc29 => k_is)
    (case fk29 => k_is)
    (case fa30 => k_is)
    (case fi30 => k_is)
    (case fl30 => k_is)
    (case fc30 => k_is)
    (case fk30 => k_is)
    (case fa31 => k_is)
    (case fi31 => k_is)
    (case fl31 => k_is)
    (case fc31 => k_is)
    (case fk31 => k_is)
    (case fa32 => k_is)
    (case fl32 => k_is)
    (case fc32 => k_is)
    (case fk32 => k_is)
    (case fa33 => k_is)
    (case fl33 => k_is)
    (case fc33 => k_is)
    (case fk33 => k_is)
    (case fa34 => k_is)
    (case fi34 => k_is)
    (case fl34 => k_is)
    (case fc34 => k_is)
    (case fk34 => k_is)
    (case fa35 => k_is)
    (case fi35 => k_is)
    (case fl35 => k_is)
    (case fc35 => k_is)
    (case fk35 => k_is)
    (case fa36 => k_is)
    (case fl36 => k_is)
    (case fc36 => k_is)
    (case fk36 => k_is)
    (case fa37 => k_is)
    (case fl37 => k_is)
    (case fc37 => k_is)
    (case fk37 => k_is)
    (case fa38 => k_is)
    (case fi38 => k_is)
    (case fl38 => k_is)
    (case fc38 => k_is)
    (case fk38 => k_is)
    (case fa39 => k_is)
    (case fi39 => k_is)
    (case fl39 => k_is)
    (case fc39 => k_is)
    (case fk39 => k_is)
    (case fa40 => k_is)
    (case fl40 => k_is)
    (case fc40 => k_is)
    (case fk40 => k_is)
    (case fa41 => k_is)
    (case fl41 => k_is)
    (case fc41 => k_is)
    (case fk41 => k_is)
    (case k_MOST_ASKS => k_is)
    (case k_MOST_TELLS => k_is)
    (case ta2 => k_is)
    (case tl2 => k_is)
    (case tv2 => exact .cons ⟨_, rfl⟩ (.cons ⟨_, rfl⟩ (.cons ⟨_, rfl⟩ (.cons ⟨_, rfl⟩ (.cons ⟨_, rfl⟩ (.cons ⟨_, rfl⟩ (.nil)))))))
    (case ta3 => k_is)
    (case tl3 => k_is)
    (case tv3 => exact .cons rfl (.cons rfl (.cons rfl (.cons rfl (.cons rfl (.cons rfl (.cons rfl (.cons rfl (.cons rfl (.cons rfl (.cons rfl (.nil))))))))))))
    (case tl4 => k_is)
    (case tv4 => exact .cons ⟨_, rfl⟩ (.cons rfl (.nil)))
    (case tl5 => k_is)
    (case tv5 => exact .cons ⟨_, rfl⟩ (.cons rfl (.nil)))
    (case tl6 => k_is)
    (case tv6 => exact .cons ⟨_, rfl⟩ (.cons rfl (.nil)))
    (case tl7 => k_is)
    (case tv7 => exact .cons ⟨_, rfl⟩ (.cons rfl (.nil)))
    (case tl8 => k_is)
    (case tv8 => exact .cons ⟨_, rfl⟩ (.cons rfl (.nil)))
    (case tl9 => k_is)
    (case tv9 => exact .cons ⟨_, rfl⟩ (.cons ⟨_, rfl⟩ (.nil)))
    (case tl10 => k_is)
    (case tv10 => exact .cons ⟨_, rfl⟩ (.cons ⟨_, rfl⟩ (.nil)))
    (case tl11 => k_is)
    (case tv11 => exact .cons ⟨_, rfl⟩ (.cons ⟨_, rfl⟩ (.nil)))
    (case tl12 => k_is)
    (case tv12 => exact .cons ⟨_, rfl⟩ (.cons ⟨_, rfl⟩ (.nil)))
    (case tl13 => k_is)
    (case tv13 => exact .cons ⟨_, rfl⟩ (.cons ⟨_, rfl⟩ (.nil)))
    (case tl14 => k_is)
    (case tv14 => exact .cons ⟨_, rfl⟩ (.cons ⟨_, rfl⟩ (.nil)))
    (case ta15 => k_is)
    (case tl15 => k_is)
    (case tv15 => exact .cons ⟨_, rfl⟩ (.cons ⟨_, rfl⟩ (.cons ⟨_, rfl⟩ (.nil))))
    (case cl1_Rule => k_is)
    (case cl2_Rule => k_is)
    (case cl3_Rule => k_is)
    (case cl4_Rule => k_is)
    (case mk1_Rule => k_is)
    (case mk2_Rule => k_is)
    (case na_Rule_row => k_is)
    (case cl1_Alike => k_is)
    (case cl2_Alike => k_is)
    (case cl3_Alike => k_is)
    (case cl4_Alike => k_is)
    (case mk1_Alike => k_is)
    (case mk2_Alike => k_is)
    (case na_Alike_legs => k_is)
    (case cl1_Parted => k_is)
    (case cl2_Parted => k_is)
    (case cl3_Parted => k_is)
    (case cl4_Parted => k_is)
    (case mk1_Parted => k_is)
    (case mk2_Parted => k_is)
    (case na_Parted_turns => k_is)
    (case i1_Rule => first | k_is | kernel_rfl | decide +kernel)
    (case i2_Rule => first | k_is | kernel_rfl | decide +kernel)
    (case i3_Rule_int => first | k_is | kernel_rfl | decide +kernel)
    (case i3_Rule_str => first | k_is | kernel_rfl | decide +kernel)
    (case i3_Rule_bool => first | k_is | kernel_rfl | decide +kernel)
    (case i3_Rule_tuple => first | k_is | kernel_rfl | decide +kernel)
    (case i3_Rule_list => first | k_is | kernel_rfl | decide +kernel)
    (case i3_Rule_dict => first | k_is | kernel_rfl | decide +kernel)
    (case i4_Rule_NoneType => first | k_is | kernel_rfl | decide +kernel)
    (case i5_Rule_NoneType => first | k_is | kernel_rfl | decide +kernel)
    (case i4_Rule_bool => first | k_is | kernel_rfl | decide +kernel)
    (case i5_Rule_bool => first | k_is | kernel_rfl | decide +kernel)
    (case i4_Rule_int => first | k_is | kernel_rfl | decide +kernel)
    (case i5_Rule_int => first | k_is | kernel_rfl | decide +kernel)
    (case i4_Rule_str => first | k_is | kernel_rfl | decide +kernel)
    (case i5_Rule_str => first | k_is | kernel_rfl | decide +kernel)
    (case i4_Rule_tuple => first | k_is | kernel_rfl | decide +kernel)
    (case i5_Rule_tuple => first | k_is | kernel_rfl | decide +kernel)
    (case i4_Rule_list => first | k_is | kernel_rfl | decide +kernel)
    (case i5_Rule_list => first | k_is | kernel_rfl | decide +kernel)
    (case i4_Rule_dict => first | k_is | kernel_rfl | decide +kernel)
    (case i5_Rule_dict => first | k_is | kernel_rfl | decide +kernel)
    (case i6_Rule_Rule => first | k_is | kernel_rfl | decide +kernel)
    (case i6_Rule_Alike => first | k_is | kernel_rfl | decide +kernel)
    (case i6_Rule_Parted => first | k_is | kernel_rfl | decide +kernel)
    (case ne_Rule => first | k_is | kernel_rfl | decide +kernel)
    (case i1_Alike => first | k_is | kernel_rfl | decide +kernel)
    (case i2_Alike => first | k_is | kernel_rfl | decide +kernel)
    (case i3_Alike_int => first | k_is | kernel_rfl | decide +kernel)
    (case i3_Alike_str => first | k_is | kernel_rfl | decide +kernel)
    (case i3_Alike_bool => first | k_is | kernel_rfl | decide +kernel)
    (case i3_Alike_tuple => first | k_is | kernel_rfl | decide +kernel)
    (case i3_Alike_list => first | k_is | kernel_rfl | decide +kernel)
    (case i3_Alike_dict => first | k_is | kernel_rfl | decide +kernel)
    (case i4_Alike_NoneType => first | k_is | kernel_rfl | decide +kernel)
    (case i5_Alike_NoneType => first | k_is | kernel_rfl | decide +kernel)
    (case i4_Alike_bool => first | k_is | kernel_rfl | decide +kernel)
    (case i5_Alike_bool => first | k_is | kernel_rfl | decide +kernel)
    (case i4_Alike_int => first | k_is | kernel_rfl | decide +kernel)
    (case i5_Alike_int => first | k_is | kernel_rfl | decide +kernel)
    (case i4_Alike_str => first | k_is | kernel_rfl | decide +kernel)
    (case i5_Alike_str => first | k_is | kernel_rfl | decide +kernel)
    (case i4_Alike_tuple => first | k_is | kernel_rfl | decide +kernel)
    (case i5_Alike_tuple => first | k_is | kernel_rfl | decide +kernel)
    (case i4_Alike_list => first | k_is | kernel_rfl | decide +kernel)
    (case i5_Alike_list => first | k_is | kernel_rfl | decide +kernel)
    (case i4_Alike_dict => first | k_is | kernel_rfl | decide +kernel)
    (case i5_Alike_dict => first | k_is | kernel_rfl | decide +kernel)
    (case i6_Alike_Rule => first | k_is | kernel_rfl | decide +kernel)
    (case i6_Alike_Alike => first | k_is | kernel_rfl | decide +kernel)
    (case i6_Alike_Parted => first | k_is | kernel_rfl | decide +kernel)
    (case ne_Alike => first | k_is | kernel_rfl | decide +kernel)
    (case i1_Parted => first | k_is | kernel_rfl | decide +kernel)
    (case i2_Parted => first | k_is | kernel_rfl | decide +kernel)
    (case i3_Parted_int => first | k_is | kernel_rfl | decide +kernel)
    (case i3_Parted_str => first | k_is | kernel_rfl | decide +kernel)
    (case i3_Parted_bool => first | k_is | kernel_rfl | decide +kernel)
    (case i3_Parted_tuple => first | k_is | kernel_rfl | decide +kernel)
    (case i3_Parted_list => first | k_is | kernel_rfl | decide +kernel)
    (case i3_Parted_dict => first | k_is | kernel_rfl | decide +kernel)
    (case i4_Parted_NoneType => first | k_is | kernel_rfl | decide +kernel)
    (case i5_Parted_NoneType => first | k_is | kernel_rfl | decide +kernel)
    (case i4_Parted_bool => first | k_is | kernel_rfl | decide +kernel)
    (case i5_Parted_bool => first | k_is | kernel_rfl | decide +kernel)
    (case i4_Parted_int => first | k_is | kernel_rfl | decide +kernel)
    (case i5_Parted_int => first | k_is | kernel_rfl | decide +kernel)
    (case i4_Parted_str => first | k_is | kernel_rfl | decide +kernel)
    (case i5_Parted_str => first | k_is | kernel_rfl | decide +kernel)
    (case i4_Parted_tuple => first | k_is | kernel_rfl | decide +kernel)
    (case i5_Parted_tuple => first | k_is | kernel_rfl | decide +kernel)
    (case i4_Parted_list => first | k_is | kernel_rfl | decide +kernel)
    (case i5_Parted_list => first | k_is | kernel_rfl | decide +kernel)
    (case i4_Parted_dict => first | k_is | kernel_rfl | decide +kernel)
    (case i5_Parted_dict => first | k_is | kernel_rfl | decide +kernel)
    (case i6_Parted_Rule => first | k_is | kernel_rfl | decide +kernel)
    (case i6_Parted_Alike => first | k_is | kernel_rfl | decide +kernel)
    (case i6_Parted_Parted => first | k_is | kernel_rfl | decide +kernel)
    (case ne_Parted => first | k_is | kernel_rfl | decide +kernel)
    (case su_Parted_Alike => first | k_is | kernel_rfl | decide +kernel)
    (case o1 => first | k_is | kernel_rfl | decide +kernel)
    (case o2 => first | k_is | kernel_rfl | decide +kernel)
    (case xc_BadRule => k_is)
    (case xb_BadRule => first | rfl | decide)
    (case x1_BadRule => k_is)
    (case x2_BadRule => k_is)
    (case x3_BadRule => k_is)
    (case x4_BadRule => k_is)
    (case x5_BadRule => k_is)
    (case x6_BadRule => k_is)
    (case x7_BadRule => k_is)
    (case x8_BadRule => k_is)
    (case x9_BadRule => first | ks_is | kernel_rfl)
    (case xa_BadRule => k_is)
    (case xd_BadRule => k_is)
    (case xe_BadRule => k_is)
    (case xf_BadRule => first | rfl | decide +kernel)
    (case xg_BadRule => k_is)
    (case xh_BadRule => k_is)
    (case xi_BadRule => k_is)
    (case xj_BadRule => exact rfl)
    (case xk_BadRule => first | rfl | decide +kernel)
    (case xl_BadRule => k_is)
    (case xm_BadRule => k_is)
    (case xn_BadRule => exact rfl)
    (case xo_BadRule => exact .cons rfl .nil)
    (case y1_BadRule => k_is)
    (case y2_BadRule => k_is)
    (case y3_BadRule => k_is)
    (case na_BadRule_part => first | k_is | kernel_rfl | decide +kernel)
